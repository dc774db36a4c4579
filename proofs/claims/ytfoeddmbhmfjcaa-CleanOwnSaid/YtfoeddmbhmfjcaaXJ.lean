/- Merged texts: E0, K4, E1, E9, E2, E3, K5, E4, QB, E5, E6, E7, E8. -/
import Derived.Test.YtfoeddmbhmfjcaaXH
import Derived.Test.YtfoeddmbhmfjcaaXD
import Derived.Test.YtfoeddmbhmfjcaaProg
import Derived.Test.YtfoeddmbhmfjcaaXF
set_option linter.unusedSimpArgs false
set_option linter.unusedVariables false
/- Plain: states that may be stay so; what the program's cleaning makes of a log. -/
namespace Go.Proofs.Ytfoeddmbhmfjcaa
open Go.RowKit
theorem chk_t {s : St} (g : Good s) : chk s = true := (chk_iff s).2 g
theorem put_ok {t : St} {b : Blk} (g : Good t) (hb : mayBlk b = true) : putErr t b = if t.opn.length = 8 then 51 else 0 := by
  unfold putErr; rw [if_pos (chk_t g), if_pos hb]
theorem putSt_ok {t : St} {b : Blk} (h : putErr t b = 0) : putSt t b = ⟨t.segs, t.held, t.opn ++ [b], t.next⟩ := by unfold putSt; rw [if_pos h]
theorem good_put {t : St} {b : Blk} (g : Good t) (hb : mayBlk b = true) (h : putErr t b = 0) : Good (putSt t b) := by
  rw [putSt_ok h]
  rw [put_ok g hb] at h
  have h8 : t.opn.length ≠ 8 := by intro e; rw [if_pos e] at h; cases h
  have h9 := g.opn8
  exact ⟨g.n1, g.n64, g.held, g.next1, g.nextM, by simp; omega, by simp [hb]; simpa using g.opnMay, g.seg, g.dist⟩
theorem sl_facts {t : St} (h : slErr t = 0) : chk t = true ∧ t.opn.length ≠ 0 ∧ t.next ≠ 1099511627776 ∧ ∃ k, sealAt t = some k ∧ slAt t = k ∧ slSt t = sealSt t k := by
  have h0 := h
  unfold slErr at h
  split at h
  · rename_i hc
    refine ⟨hc, ?_⟩
    split at h
    · cases h
    · rename_i ho
      refine ⟨ho, ?_⟩
      cases hs : sealAt t with
      | none => rw [hs] at h; cases h
      | some k =>
        rw [hs] at h
        simp only at h
        split at h
        · cases h
        · rename_i hn
          have e : slAt t = k := by unfold slAt; rw [if_pos h0, hs]; rfl
          exact ⟨hn, k, rfl, e, by unfold slSt; rw [if_pos h0, e]⟩
  · cases h
theorem sealAt_free {t : St} {k : Nat} (h : sealAt t = some k) : ∃ x, t.segs[k]? = some x ∧ freeB x = true := by
  unfold sealAt at h
  have := List.find?_some h
  unfold sealOk at this
  split at this
  · rename_i x hd hx _
    exact ⟨x, hx, by simp at this; exact this.1⟩
  · cases this
theorem good_seal {t : St} (g : Good t) (h : slErr t = 0) : Good (slSt t) := by
  obtain ⟨hc, ho, hn, k, hk, _, e⟩ := sl_facts h
  have hlt := sealAt_lt hk
  have hM := g.nextM
  rw [e]
  unfold sealSt
  have get : ∀ (i : Nat) (x : Sg), (t.segs.set k ⟨t.next, t.opn⟩)[i]? = some x → (i = k ∧ x = ⟨t.next, t.opn⟩) ∨ (i ≠ k ∧ t.segs[i]? = some x) := by
    intro i x hx
    by_cases hi : i = k
    · subst hi; rw [List.getElem?_set_self hlt] at hx; exact .inl ⟨rfl, (Option.some.inj hx).symm⟩
    · rw [List.getElem?_set_ne (Ne.symm hi)] at hx; exact .inr ⟨hi, hx⟩
  refine ⟨by simp; exact g.n1, by simp; exact g.n64, by simp; exact g.held, by have := g.next1; show 1 ≤ t.next + 1; omega, by show t.next + 1 ≤ _; omega, by simp, by simp, fun i x hx hf => ?_, fun i j x y hx hy hfx hfy e => ?_⟩
  · rcases get i x hx with ⟨_, rfl⟩ | ⟨_, hx⟩
    · refine ⟨?_, by show t.next < t.next + 1; omega⟩
      have h1 := g.next1
      have h2 := g.opn8
      simp only [sgOk, Bool.and_eq_true, decide_eq_true_eq]
      exact ⟨⟨h1, hM, by omega, h2⟩, g.opnMay⟩
    · obtain ⟨h1, h2⟩ := g.seg i x hx hf
      exact ⟨h1, by show x.seq < t.next + 1; omega⟩
  · rcases get i x hx with ⟨rfl, rfl⟩ | ⟨hi, hx2⟩
    · rcases get j y hy with ⟨rfl, rfl⟩ | ⟨hj, hy⟩
      · rfl
      · have := (g.seg j y hy hfy).2; have e' : t.next = y.seq := e; omega
    · rcases get j y hy with ⟨rfl, rfl⟩ | ⟨hj, hy2⟩
      · have := (g.seg i x hx2 hfx).2; have e' : x.seq = t.next := e; omega
      · exact g.dist i j x y hx2 hy2 hfx hfy e
theorem seal_opn {t : St} (h : slErr t = 0) : (slSt t).opn = [] := by
  obtain ⟨_, _, _, k, _, _, e⟩ := sl_facts h
  rw [e]; rfl
/-- a slot that is in use stays as it is -/
theorem seal_slot {t : St} (h : slErr t = 0) {i : Nat} {x : Sg} (hx : t.segs[i]? = some x) (hf : freeB x = false) : (slSt t).segs[i]? = some x := by
  obtain ⟨_, _, _, k, hk, _, e⟩ := sl_facts h
  obtain ⟨y, hy, hfy⟩ := sealAt_free hk
  rw [e]
  unfold sealSt
  have : k ≠ i := by intro e; subst e; rw [hx] at hy; cases hy; rw [hf] at hfy; cases hfy
  simp only [List.getElem?_set_ne this, hx]
theorem put_slot {t : St} {b : Blk} (h : putErr t b = 0) : (putSt t b).segs = t.segs := by rw [putSt_ok h]
theorem sl_err {t : St} (g : Good t) (ho : t.opn.length ≠ 0) : slErr t = 0 ∨ slErr t = 51 := by
  unfold slErr
  rw [if_pos (chk_t g), if_neg ho]
  split
  · exact .inr rfl
  · split
    · exact .inr rfl
    · exact .inl rfl
/-- the blocks, put anew -/
def clGo : List Blk → St → St × Int
  | [], t => (t, 0)
  | b :: l, t => if putErr t b = 0 then clGo l (putSt t b) else if slErr t = 0 then clGo l (putSt (slSt t) b) else (St.zero, slErr t)
def clEnd (l : List Blk) (t : St) : St × Int := if l.length = 0 then (t, 0) else if slErr t = 0 then (slSt t, 0) else (St.zero, slErr t)
def clFree (slot : Int) (q : St × Int) : St × Int := if q.2 = 0 then (frSt q.1 slot, frErr q.1 slot) else (St.zero, q.2)
def clPut (l : List Blk) (t : St) : St × Int := if (clGo l t).2 = 0 then clEnd l (clGo l t).1 else (St.zero, (clGo l t).2)
/-- what a cleaning makes of a log -/
def cl (s : St) (slot seq : Int) : St × Int :=
  if liveErr s slot = 0 then (match s.segs[slot.toNat]? with
    | some x => if x.seq = seq then clFree slot (clPut (liveL s slot) s) else (St.zero, 81)
    | none => (St.zero, 81)) else (St.zero, liveErr s slot)
/-- all is well on the way: the slot stays; an error is 51 -/
theorem clGo_facts : ∀ (l : List Blk) (t : St), Good t → (∀ b ∈ l, mayBlk b = true) → ((clGo l t).2 = 0 ∨ (clGo l t).2 = 51) ∧
    ((clGo l t).2 = 0 → Good (clGo l t).1 ∧ (l ≠ [] → (clGo l t).1.opn.length ≠ 0) ∧ ∀ (i : Nat) (x : Sg), t.segs[i]? = some x → freeB x = false → (clGo l t).1.segs[i]? = some x)
  | [], t, g, _ => ⟨.inl rfl, fun _ => ⟨g, fun h => absurd rfl h, fun i x hx _ => hx⟩⟩
  | b :: l, t, g, hm => by
    have hb := hm b (by simp)
    have hl : ∀ b ∈ l, mayBlk b = true := fun c hc => hm c (by simp [hc])
    have ne : ∀ {t' : St}, putErr t' b = 0 → (clGo l (putSt t' b)).2 = 0 → Good (putSt t' b) → (clGo l (putSt t' b)).1.opn.length ≠ 0 := by
      intro t' h1 h2 h3
      cases l with
      | nil => simp only [clGo, putSt_ok h1]; simp
      | cons c l => exact ((clGo_facts (c :: l) _ h3 hl).2 h2).2.1 (by simp)
    by_cases h0 : putErr t b = 0
    · have gp := good_put g hb h0
      have ih := clGo_facts l _ gp hl
      simp only [clGo, if_pos h0]
      refine ⟨ih.1, fun h => ⟨(ih.2 h).1, fun _ => ne h0 h gp, fun i x hx hf => (ih.2 h).2.2 i x (by rw [put_slot h0]; exact hx) hf⟩⟩
    · have h8 : t.opn.length = 8 := by rw [put_ok g hb] at h0; by_cases e : t.opn.length = 8; · exact e
                                       · rw [if_neg e] at h0; exact absurd rfl h0
      by_cases h1 : slErr t = 0
      · have gs := good_seal g h1
        have h2 : putErr (slSt t) b = 0 := by rw [put_ok gs hb, seal_opn h1]; rfl
        have gp := good_put gs hb h2
        have ih := clGo_facts l _ gp hl
        simp only [clGo, if_neg h0, if_pos h1]
        refine ⟨ih.1, fun h => ⟨(ih.2 h).1, fun _ => ne h2 h gp, fun i x hx hf => (ih.2 h).2.2 i x (by rw [put_slot h2]; exact seal_slot h1 hx hf) hf⟩⟩
      · simp only [clGo, if_neg h0, if_neg h1]
        refine ⟨sl_err g (by omega), fun h => absurd h h1⟩
theorem clPut_facts (l : List Blk) (t : St) (g : Good t) (hm : ∀ b ∈ l, mayBlk b = true) : ((clPut l t).2 = 0 ∨ (clPut l t).2 = 51) ∧
    ((clPut l t).2 = 0 → Good (clPut l t).1 ∧ ∀ (i : Nat) (x : Sg), t.segs[i]? = some x → freeB x = false → (clPut l t).1.segs[i]? = some x) := by
  obtain ⟨h1, h2⟩ := clGo_facts l t g hm
  unfold clPut
  by_cases h0 : (clGo l t).2 = 0
  · rw [if_pos h0]
    obtain ⟨h3, h4, h5⟩ := h2 h0
    unfold clEnd
    by_cases hl : l.length = 0
    · rw [if_pos hl]; exact ⟨.inl rfl, fun _ => ⟨h3, h5⟩⟩
    · rw [if_neg hl]
      have ho := h4 (fun e => hl (by rw [e]; rfl))
      by_cases hs : slErr (clGo l t).1 = 0
      · rw [if_pos hs]; exact ⟨.inl rfl, fun _ => ⟨good_seal h3 hs, fun i x hx hf => seal_slot hs (h5 i x hx hf) hf⟩⟩
      · rw [if_neg hs]; exact ⟨sl_err h3 ho, fun h => absurd h hs⟩
  · rw [if_neg h0]; exact ⟨h1, fun h => absurd h h0⟩
theorem fr_err {t : St} {slot : Int} (h : liveErr t slot = 0) : frErr t slot = 0 ∨ frErr t slot = 91 := by
  unfold frErr; rw [if_pos h]; split
  · exact .inl rfl
  · exact .inr rfl
theorem live_may {s : St} {slot : Int} : ∀ b ∈ liveL s slot, mayBlk b = true := by
  intro b hb
  rw [← live_eq] at hb
  unfold rlive at hb
  split at hb
  · rename_i hu
    obtain ⟨hc, k, x, rfl, hx, hf⟩ := usedE_0 hu
    rw [Int.toNat_natCast, hx] at hb
    have g := (rchk_iff s).1 hc
    have h1 := (g.seg k x hx (by rw [← freeB'_eq]; exact hf)).1
    simp only [sgOk, Bool.and_eq_true, List.all_eq_true] at h1
    exact h1.2 b (keepL_mem hb)
  · simp at hb
/-- the errors of a cleaning behind the first two -/
theorem cl_err {s : St} {slot seq : Int} {x : Sg} (h : liveErr s slot = 0) (hx : s.segs[slot.toNat]? = some x) (hq : x.seq = seq) : (cl s slot seq).2 = 0 ∨ (cl s slot seq).2 = 51 ∨ (cl s slot seq).2 = 91 := by
  have hu := h
  rw [← used_eq] at hu
  obtain ⟨hc, k, y, rfl, hy, hf⟩ := usedE_0 hu
  have g := (rchk_iff s).1 hc
  rw [Int.toNat_natCast] at hx
  rw [hx] at hy; cases hy
  unfold cl
  rw [if_pos h, Int.toNat_natCast, hx]
  simp only [hq, if_true]
  obtain ⟨h1, h2⟩ := clPut_facts (liveL s k) s g live_may
  unfold clFree
  by_cases h0 : (clPut (liveL s k) s).2 = 0
  · rw [if_pos h0]
    obtain ⟨h3, h4⟩ := h2 h0
    have h5 : liveErr (clPut (liveL s k) s).1 k = 0 := by
      unfold liveErr
      rw [if_pos (chk_t h3), slot_at (h4 k x hx hf)]
      rw [freeB'_eq] at hf
      simp [hf]
    rcases fr_err h5 with h6 | h6
    · exact .inl h6
    · exact .inr (.inr h6)
  · rw [if_neg h0]
    rcases h1 with h1 | h1
    · exact absurd h1 h0
    · exact .inr (.inl h1)
end Go.Proofs.Ytfoeddmbhmfjcaa
/- Functions of the program, compiled. -/
namespace Go.Proofs.Ytfoeddmbhmfjcaa
set_option maxRecDepth 100000
def ac_33 : AC :=
(.seq (.reg false [⟨some 2, .box 36 (.tmp 0), none, [0], []⟩,
    ⟨some 3, .box 66 (.tmp 1), none, [1], []⟩,
    ⟨some 4, .new 36 [(.slice none 0 0), (.slice none 0 0), (.slice none 0 0), (.int .i64 (0))], none, [], []⟩,
    ⟨some 5, .mv (.const (.int .i64 (0))), none, [], []⟩] [2, 3, 4])
(.seq (.reg false [⟨some 13, .load true 4 (.tmp 2), none, [2], []⟩,
    ⟨some 14, .foff 0 (.tmp 3), none, [3], []⟩,
    ⟨some 15, .load false 1 (.tmp 14), none, [14], []⟩,
    ⟨some 16, .call 21 [(.tmp 13), (.tmp 15)], none, [13, 15], []⟩,
    ⟨some 12, .mv (.tmp 16), none, [16], []⟩,
    ⟨some 17, .ext 0 (.tmp 12), none, [12], []⟩,
    ⟨some 18, .ext 1 (.tmp 12), none, [12], []⟩,
    ⟨some 6, .mv (.tmp 17), none, [17], []⟩,
    ⟨some 7, .mv (.tmp 18), none, [18], []⟩] [2, 3, 4, 6, 7])
(.seq (.seq (.reg false [⟨some 19, .mv (.tmp 7), none, [7], []⟩,
    ⟨some 20, .bin .neq (.tmp 19) (.const (.int .i64 (0))), none, [19], []⟩] [2, 3, 4, 6, 7, 20])
(.cond (.tmp 20)
(.seq (.reg false [⟨some 21, .build [(.slice none 0 0), (.slice none 0 0), (.slice none 0 0), (.int .i64 (0))] [], none, [], []⟩,
    ⟨some 22, .mv (.tmp 7), none, [7], []⟩,
    ⟨none, .store 4 (.tmp 4) (.tmp 21), none, [4, 21], []⟩,
    ⟨some 5, .mv (.tmp 22), none, [22], []⟩] [4, 5])
.ret)
.skip))
(.seq (.seq (.reg true [⟨some 23, .foff 0 (.tmp 2), none, [2], []⟩,
    ⟨some 24, .load false 1 (.tmp 23), none, [23], [0]⟩,
    ⟨some 25, .foff 0 (.tmp 3), none, [3], []⟩,
    ⟨some 26, .load false 1 (.tmp 25), none, [25], [2]⟩,
    ⟨some 27, .idx 2 (.tmp 24) (.tmp 26), none, [24, 26], [1, 3, 0, 2]⟩,
    ⟨some 28, .foff 0 (.tmp 27), none, [27], [4, 1, 3, 0, 2]⟩,
    ⟨some 29, .load false 1 (.tmp 28), none, [28], [5, 4, 1, 3, 0, 2]⟩,
    ⟨some 30, .foff 1 (.tmp 3), none, [3], []⟩,
    ⟨some 31, .load false 1 (.tmp 30), none, [30], [7]⟩,
    ⟨some 32, .bin .neq (.tmp 29) (.tmp 31), none, [29, 31], [6, 8, 5, 4, 1, 3, 0, 2, 7]⟩] [2, 3, 4, 6, 32])
(.cond (.tmp 32)
(.seq (.reg false [⟨some 33, .build [(.slice none 0 0), (.slice none 0 0), (.slice none 0 0), (.int .i64 (0))] [], none, [], []⟩,
    ⟨none, .store 4 (.tmp 4) (.tmp 33), none, [4, 33], []⟩,
    ⟨some 5, .mv (.const (.int .i64 (81))), none, [], []⟩] [4, 5])
.ret)
.skip))
(.seq (.reg false [⟨some 34, .load true 4 (.tmp 2), none, [2], []⟩,
    ⟨some 8, .new 36 [(.slice none 0 0), (.slice none 0 0), (.slice none 0 0), (.int .i64 (0))], none, [], []⟩,
    ⟨none, .store 4 (.tmp 8) (.tmp 34), none, [8, 34], []⟩] [3, 4, 6, 8])
(.seq (.seq (.reg false [⟨some 9, .mv (.const (.int .i64 (0))), none, [], []⟩] [3, 4, 6, 8, 9])
(.block 0 (.loop (.seq (.seq (.reg false [⟨some 35, .mv (.tmp 9), none, [9], []⟩,
    ⟨some 36, .mv (.tmp 6), none, [6], []⟩,
    ⟨some 37, .len false (.tmp 36), none, [36], []⟩,
    ⟨some 38, .bin .lss (.tmp 35) (.tmp 37), none, [35, 37], []⟩] [3, 4, 6, 8, 9, 38])
(.cond (.tmp 38)
.skip
(.exit 0)))
(.block 1 (.seq (.reg true [⟨some 40, .load true 4 (.tmp 8), none, [8], []⟩,
    ⟨some 41, .mv (.tmp 6), none, [6], []⟩,
    ⟨some 42, .mv (.tmp 9), none, [9], []⟩,
    ⟨some 43, .idx 3 (.tmp 41) (.tmp 42), none, [41, 42], [1, 2]⟩,
    ⟨some 44, .load true 3 (.tmp 43), none, [43], [3, 1, 2]⟩,
    ⟨some 45, .call 30 [(.tmp 40), (.tmp 44)], none, [40, 44], [0, 4, 3, 1, 2]⟩,
    ⟨some 39, .mv (.tmp 45), none, [45], [5, 0, 4, 3, 1, 2]⟩,
    ⟨some 46, .ext 0 (.tmp 39), none, [39], [6, 5, 0, 4, 3, 1, 2]⟩,
    ⟨some 47, .ext 1 (.tmp 39), none, [39], [6, 5, 0, 4, 3, 1, 2]⟩,
    ⟨some 10, .new 36 [(.slice none 0 0), (.slice none 0 0), (.slice none 0 0), (.int .i64 (0))], none, [], []⟩,
    ⟨none, .store 4 (.tmp 10) (.tmp 46), none, [10, 46], [9, 7, 5, 0, 1, 2, 3, 4, 6]⟩,
    ⟨some 11, .mv (.tmp 47), none, [47], [8, 10, 0, 1, 2, 3, 4, 5, 6, 7, 9]⟩] [3, 4, 6, 8, 9, 10, 11])
(.seq (.seq (.reg false [⟨some 48, .mv (.tmp 11), none, [11], []⟩,
    ⟨some 49, .bin .eql (.tmp 48) (.const (.int .i64 (0))), none, [48], []⟩] [3, 4, 6, 8, 9, 10, 49])
(.cond (.tmp 49)
(.seq (.reg false [⟨some 50, .load true 4 (.tmp 10), none, [10], []⟩,
    ⟨none, .store 4 (.tmp 8) (.tmp 50), none, [8, 50], []⟩] [3, 4, 6, 8, 9])
(.seq (.reg false [⟨some 51, .mv (.tmp 9), none, [9], []⟩,
    ⟨some 52, .bin .add (.tmp 51) (.const (.int .i64 (1))), none, [51], []⟩,
    ⟨some 9, .mv (.tmp 52), none, [52], []⟩] [3, 4, 6, 8, 9])
(.exit 1)))
.skip))
(.seq (.reg false [⟨some 54, .load true 4 (.tmp 8), none, [8], []⟩,
    ⟨some 55, .call 19 [(.tmp 54)], none, [54], []⟩,
    ⟨some 53, .mv (.tmp 55), none, [55], []⟩,
    ⟨some 56, .ext 0 (.tmp 53), none, [53], []⟩,
    ⟨some 57, .ext 1 (.tmp 53), none, [53], []⟩,
    ⟨some 58, .ext 2 (.tmp 53), none, [53], []⟩,
    ⟨none, .store 4 (.tmp 8) (.tmp 56), none, [8, 56], []⟩,
    ⟨some 11, .mv (.tmp 58), none, [58], []⟩] [3, 4, 6, 8, 9, 11])
(.seq (.reg false [⟨some 59, .mv (.tmp 11), none, [11], []⟩,
    ⟨some 60, .bin .neq (.tmp 59) (.const (.int .i64 (0))), none, [59], []⟩] [3, 4, 6, 8, 9, 11, 60])
(.cond (.tmp 60)
(.seq (.reg false [⟨some 61, .build [(.slice none 0 0), (.slice none 0 0), (.slice none 0 0), (.int .i64 (0))] [], none, [], []⟩,
    ⟨some 62, .mv (.tmp 11), none, [11], []⟩,
    ⟨none, .store 4 (.tmp 4) (.tmp 61), none, [4, 61], []⟩,
    ⟨some 5, .mv (.tmp 62), none, [62], []⟩] [4, 5])
.ret)
.skip))))))))))
(.seq (.seq (.reg false [⟨some 63, .mv (.tmp 6), none, [6], []⟩,
    ⟨some 64, .len false (.tmp 63), none, [63], []⟩,
    ⟨some 65, .bin .gtr (.tmp 64) (.const (.int .i64 (0))), none, [64], []⟩] [3, 4, 8, 65])
(.cond (.tmp 65)
(.seq (.reg false [⟨some 67, .load true 4 (.tmp 8), none, [8], []⟩,
    ⟨some 68, .call 19 [(.tmp 67)], none, [67], []⟩,
    ⟨some 66, .mv (.tmp 68), none, [68], []⟩,
    ⟨some 69, .ext 0 (.tmp 66), none, [66], []⟩,
    ⟨some 70, .ext 1 (.tmp 66), none, [66], []⟩,
    ⟨some 71, .ext 2 (.tmp 66), none, [66], []⟩,
    ⟨none, .store 4 (.tmp 8) (.tmp 69), none, [8, 69], []⟩,
    ⟨some 7, .mv (.tmp 71), none, [71], []⟩] [3, 4, 7, 8])
(.seq (.reg false [⟨some 72, .mv (.tmp 7), none, [7], []⟩,
    ⟨some 73, .bin .neq (.tmp 72) (.const (.int .i64 (0))), none, [72], []⟩] [3, 4, 7, 8, 73])
(.cond (.tmp 73)
(.seq (.reg false [⟨some 74, .build [(.slice none 0 0), (.slice none 0 0), (.slice none 0 0), (.int .i64 (0))] [], none, [], []⟩,
    ⟨some 75, .mv (.tmp 7), none, [7], []⟩,
    ⟨none, .store 4 (.tmp 4) (.tmp 74), none, [4, 74], []⟩,
    ⟨some 5, .mv (.tmp 75), none, [75], []⟩] [4, 5])
.ret)
.skip)))
.skip))
(.seq (.seq (.reg false [⟨some 77, .load true 4 (.tmp 8), none, [8], []⟩,
    ⟨some 78, .foff 0 (.tmp 3), none, [3], []⟩,
    ⟨some 79, .load false 1 (.tmp 78), none, [78], []⟩,
    ⟨some 80, .call 23 [(.tmp 77), (.tmp 79)], none, [77, 79], []⟩,
    ⟨some 76, .mv (.tmp 80), none, [80], []⟩,
    ⟨some 81, .ext 0 (.tmp 76), none, [76], []⟩,
    ⟨some 82, .ext 1 (.tmp 76), none, [76], []⟩,
    ⟨none, .store 4 (.tmp 8) (.tmp 81), none, [8, 81], []⟩,
    ⟨some 7, .mv (.tmp 82), none, [82], []⟩] [4, 7, 8])
(.seq (.reg false [⟨some 83, .mv (.tmp 7), none, [7], []⟩,
    ⟨some 84, .bin .neq (.tmp 83) (.const (.int .i64 (0))), none, [83], []⟩] [4, 7, 8, 84])
(.cond (.tmp 84)
(.seq (.reg false [⟨some 85, .build [(.slice none 0 0), (.slice none 0 0), (.slice none 0 0), (.int .i64 (0))] [], none, [], []⟩,
    ⟨some 86, .mv (.tmp 7), none, [7], []⟩,
    ⟨none, .store 4 (.tmp 4) (.tmp 85), none, [4, 85], []⟩,
    ⟨some 5, .mv (.tmp 86), none, [86], []⟩] [4, 5])
.ret)
.skip)))
(.seq (.reg false [⟨some 87, .load true 4 (.tmp 8), none, [8], []⟩,
    ⟨none, .store 4 (.tmp 4) (.tmp 87), none, [4, 87], []⟩,
    ⟨some 5, .mv (.const (.int .i64 (0))), none, [], []⟩] [4, 5])
.ret)))))))))
theorem ok_33 : FnOk Try.prog 33 88 ac_33 [.cell 4 true 4, .tmp 5] := ⟨Try.f33, Try.func33, by kernel_rfl, by kernel_rfl, by kernel_rfl, by kernel_rfl, by kernel_rfl⟩
def ac_6 : AC :=
(.seq (.reg false [⟨some 3, .box 32 (.tmp 0), none, [0], []⟩,
    ⟨some 6, .mv (.const (.bool false)), none, [], []⟩] [1, 2, 3])
(.seq (.seq (.reg false [⟨some 9, .call 15 [], none, [], []⟩,
    ⟨some 10, .un .not (.tmp 9), none, [9], []⟩] [1, 2, 3, 10])
(.cond (.tmp 10)
(.seq (.reg false [⟨some 6, .mv (.const (.bool false)), none, [], []⟩] [6])
.ret)
.skip))
(.seq (.reg false [⟨some 12, .load true 4 (.tmp 3), none, [3], []⟩,
    ⟨some 13, .call 18 [(.tmp 12)], none, [12], []⟩,
    ⟨some 14, .mv (.tmp 1), none, [1], []⟩,
    ⟨some 15, .mv (.tmp 2), none, [2], []⟩,
    ⟨some 16, .build [(.int .i64 (0)), (.int .i64 (0))] [(0, 1, (.tmp 14)), (1, 1, (.tmp 15))], none, [14, 15], []⟩,
    ⟨some 17, .call 33 [(.tmp 13), (.tmp 16)], none, [13, 16], []⟩,
    ⟨some 11, .mv (.tmp 17), none, [17], []⟩,
    ⟨some 18, .ext 0 (.tmp 11), none, [11], []⟩,
    ⟨some 19, .ext 1 (.tmp 11), none, [11], []⟩,
    ⟨some 7, .new 36 [(.slice none 0 0), (.slice none 0 0), (.slice none 0 0), (.int .i64 (0))], none, [], []⟩,
    ⟨none, .store 4 (.tmp 7) (.tmp 18), none, [7, 18], []⟩,
    ⟨some 8, .mv (.tmp 19), none, [19], []⟩] [1, 2, 3, 7, 8])
(.seq (.block 0 (.seq (.reg false [⟨some 21, .load true 4 (.tmp 3), none, [3], []⟩,
    ⟨some 22, .call 34 [(.tmp 21)], none, [21], []⟩,
    ⟨some 23, .bin .neq (.tmp 22) (.const (.int .i64 (0))), none, [22], []⟩,
    ⟨some 20, .mv (.tmp 23), none, [23], []⟩] [1, 2, 3, 7, 8, 20])
(.cond (.tmp 20)
(.seq (.reg false [⟨some 24, .mv (.tmp 8), none, [8], []⟩,
    ⟨some 25, .call 17 [(.tmp 24)], none, [24], []⟩,
    ⟨some 26, .bin .eql (.tmp 25) (.const (.int .i64 (9))), none, [25], []⟩,
    ⟨some 6, .mv (.tmp 26), none, [26], []⟩] [6])
.ret)
(.seq (.reg false [⟨some 28, .mv (.tmp 1), none, [1], []⟩,
    ⟨some 29, .bin .lss (.tmp 28) (.const (.int .i64 (0))), none, [28], []⟩,
    ⟨some 30, .mv (.tmp 29), none, [29], []⟩,
    ⟨some 31, .mv (.tmp 1), some (30, false), [1, 30], []⟩,
    ⟨some 32, .foff 0 (.tmp 3), some (30, false), [3, 30], []⟩,
    ⟨some 33, .load false 1 (.tmp 32), some (30, false), [32, 30], []⟩,
    ⟨some 34, .len false (.tmp 33), some (30, false), [33, 30], []⟩,
    ⟨some 35, .bin .geq (.tmp 31) (.tmp 34), some (30, false), [31, 34, 30], []⟩,
    ⟨some 36, .pick (.tmp 30) (.const (.bool true)) (.tmp 35), none, [30, 35], []⟩,
    ⟨some 37, .mv (.tmp 36), none, [36], []⟩,
    ⟨some 38, .foff 0 (.tmp 3), some (37, false), [3, 37], []⟩,
    ⟨some 39, .load false 1 (.tmp 38), some (37, false), [38, 37], []⟩,
    ⟨some 40, .mv (.tmp 1), some (37, false), [1, 37], []⟩,
    ⟨some 41, .idx 2 (.tmp 39) (.tmp 40), some (37, false), [39, 40, 37], []⟩,
    ⟨some 42, .foff 0 (.tmp 41), some (37, false), [41, 37], []⟩,
    ⟨some 43, .load false 1 (.tmp 42), some (37, false), [42, 37], []⟩,
    ⟨some 44, .bin .eql (.tmp 43) (.const (.int .i64 (0))), some (37, false), [43, 37], []⟩,
    ⟨some 45, .pick (.tmp 37) (.const (.bool true)) (.tmp 44), none, [37, 44], []⟩,
    ⟨some 27, .mv (.tmp 45), none, [45], []⟩] [1, 2, 3, 7, 8, 27])
(.cond (.tmp 27)
(.seq (.reg false [⟨some 46, .mv (.tmp 8), none, [8], []⟩,
    ⟨some 47, .call 17 [(.tmp 46)], none, [46], []⟩,
    ⟨some 48, .bin .eql (.tmp 47) (.const (.int .i64 (71))), none, [47], []⟩,
    ⟨some 6, .mv (.tmp 48), none, [48], []⟩] [6])
.ret)
(.seq (.reg false [⟨some 50, .foff 0 (.tmp 3), none, [3], []⟩,
    ⟨some 51, .load false 1 (.tmp 50), none, [50], []⟩,
    ⟨some 52, .mv (.tmp 1), none, [1], []⟩,
    ⟨some 53, .idx 2 (.tmp 51) (.tmp 52), none, [51, 52], []⟩,
    ⟨some 54, .foff 0 (.tmp 53), none, [53], []⟩,
    ⟨some 55, .load false 1 (.tmp 54), none, [54], []⟩,
    ⟨some 56, .mv (.tmp 2), none, [2], []⟩,
    ⟨some 57, .bin .neq (.tmp 55) (.tmp 56), none, [55, 56], []⟩,
    ⟨some 49, .mv (.tmp 57), none, [57], []⟩] [7, 8, 49])
(.cond (.tmp 49)
(.seq (.reg false [⟨some 58, .mv (.tmp 8), none, [8], []⟩,
    ⟨some 59, .call 17 [(.tmp 58)], none, [58], []⟩,
    ⟨some 60, .bin .eql (.tmp 59) (.const (.int .i64 (81))), none, [59], []⟩,
    ⟨some 61, .mv (.tmp 60), none, [60], []⟩,
    ⟨some 62, .foff 0 (.tmp 7), some (61, true), [7, 61], []⟩,
    ⟨some 63, .load false 1 (.tmp 62), some (61, true), [62, 61], []⟩,
    ⟨some 64, .len false (.tmp 63), some (61, true), [63, 61], []⟩,
    ⟨some 65, .bin .eql (.tmp 64) (.const (.int .i64 (0))), some (61, true), [64, 61], []⟩,
    ⟨some 66, .pick (.tmp 61) (.tmp 65) (.const (.bool false)), none, [61, 65], []⟩,
    ⟨some 6, .mv (.tmp 66), none, [66], []⟩] [6])
.ret)
.skip)))))))
(.seq (.reg false [⟨some 67, .mv (.tmp 8), none, [8], []⟩,
    ⟨some 68, .call 17 [(.tmp 67)], none, [67], []⟩,
    ⟨some 69, .bin .neq (.tmp 68) (.const (.int .i64 (81))), none, [68], []⟩,
    ⟨some 70, .mv (.tmp 69), none, [69], []⟩,
    ⟨some 71, .mv (.tmp 8), some (70, true), [8, 70], []⟩,
    ⟨some 72, .call 17 [(.tmp 71)], some (70, true), [71, 70], []⟩,
    ⟨some 73, .bin .neq (.tmp 72) (.const (.int .i64 (71))), some (70, true), [72, 70], []⟩,
    ⟨some 74, .pick (.tmp 70) (.tmp 73) (.const (.bool false)), none, [70, 73], []⟩,
    ⟨some 6, .mv (.tmp 74), none, [74], []⟩] [6])
.ret)))))
theorem ok_6 : FnOk Try.prog 6 75 ac_6 [.tmp 6] := ⟨Try.f6, Try.func6, by kernel_rfl, by kernel_rfl, by kernel_rfl, by kernel_rfl, by kernel_rfl⟩
def ac_15 : AC :=
(.seq (.reg false [⟨some 0, .mv (.const (.bool false)), none, [], []⟩] [])
(.seq (.reg false [⟨some 4, .call 16 [(.const (.int .i64 (1))), (.const (.int .i64 (2))), (.const (.int .i64 (9)))], none, [], []⟩,
    ⟨some 3, .mv (.tmp 4), none, [4], []⟩,
    ⟨some 5, .ext 0 (.tmp 3), none, [3], []⟩,
    ⟨some 6, .ext 1 (.tmp 3), none, [3], []⟩,
    ⟨some 1, .mv (.tmp 5), none, [5], []⟩,
    ⟨some 2, .mv (.tmp 6), none, [6], []⟩] [1, 2])
(.seq (.reg false [⟨some 7, .mv (.tmp 2), none, [2], []⟩,
    ⟨some 8, .call 17 [(.tmp 7)], none, [7], []⟩,
    ⟨some 9, .bin .eql (.tmp 8) (.const (.int .i64 (0))), none, [8], []⟩,
    ⟨some 10, .mv (.tmp 9), none, [9], []⟩,
    ⟨some 11, .mv (.tmp 1), some (10, true), [1, 10], []⟩,
    ⟨some 12, .bin .eql (.tmp 11) (.const (.int .i64 (307))), some (10, true), [11, 10], []⟩,
    ⟨some 13, .pick (.tmp 10) (.tmp 12) (.const (.bool false)), none, [10, 12], []⟩,
    ⟨some 0, .mv (.tmp 13), none, [13], []⟩] [0])
.ret)))
theorem ok_15 : FnOk Try.prog 15 14 ac_15 [.tmp 0] := ⟨Try.f15, Try.func15, by kernel_rfl, by kernel_rfl, by kernel_rfl, by kernel_rfl, by kernel_rfl⟩
def ac_48 : AC :=
(.seq (.reg false [⟨some 6, .mv (.const (.bool false)), none, [], []⟩] [0, 1, 2])
(.seq (.reg false [⟨some 7, .mv (.tmp 0), none, [0], []⟩,
    ⟨some 8, .mv (.tmp 1), none, [1], []⟩,
    ⟨some 9, .bin .geq (.tmp 7) (.tmp 8), none, [7, 8], []⟩,
    ⟨some 10, .mv (.tmp 9), none, [9], []⟩,
    ⟨some 11, .mv (.tmp 0), some (10, true), [0, 10], []⟩,
    ⟨some 12, .mv (.tmp 2), some (10, true), [2, 10], []⟩,
    ⟨some 13, .bin .leq (.tmp 11) (.tmp 12), some (10, true), [11, 12, 10], []⟩,
    ⟨some 14, .pick (.tmp 10) (.tmp 13) (.const (.bool false)), none, [10, 13], []⟩,
    ⟨some 6, .mv (.tmp 14), none, [14], []⟩] [6])
.ret))
theorem ok_48 : FnOk Try.prog 48 15 ac_48 [.tmp 6] := ⟨Try.f48, Try.func48, by kernel_rfl, by kernel_rfl, by kernel_rfl, by kernel_rfl, by kernel_rfl⟩
def ac_16 : AC :=
(.seq (.reg false [⟨some 6, .mv (.const (.int .i64 (0))), none, [], []⟩,
    ⟨some 7, .mv (.const (.int .i64 (0))), none, [], []⟩] [0, 1, 2])
(.seq (.seq (.reg false [⟨some 10, .mv (.tmp 0), none, [0], []⟩,
    ⟨some 11, .call 48 [(.tmp 10), (.const (.int .i64 (1))), (.const (.int .i64 (1099511627776)))], none, [10], []⟩,
    ⟨some 12, .un .not (.tmp 11), none, [11], []⟩,
    ⟨some 13, .mv (.tmp 12), none, [12], []⟩,
    ⟨some 14, .mv (.tmp 1), some (13, false), [1, 13], []⟩,
    ⟨some 15, .call 48 [(.tmp 14), (.const (.int .i64 (0))), (.const (.int .i64 (8)))], some (13, false), [14, 13], []⟩,
    ⟨some 16, .un .not (.tmp 15), some (13, false), [15, 13], []⟩,
    ⟨some 17, .pick (.tmp 13) (.const (.bool true)) (.tmp 16), none, [13, 16], []⟩,
    ⟨some 18, .mv (.tmp 17), none, [17], []⟩,
    ⟨some 19, .mv (.tmp 2), some (18, false), [2, 18], []⟩,
    ⟨some 20, .mv (.tmp 0), some (18, false), [0, 18], []⟩,
    ⟨some 21, .call 48 [(.tmp 19), (.tmp 20), (.const (.int .i64 (1099511627776)))], some (18, false), [19, 20, 18], []⟩,
    ⟨some 22, .un .not (.tmp 21), some (18, false), [21, 18], []⟩,
    ⟨some 23, .pick (.tmp 18) (.const (.bool true)) (.tmp 22), none, [18, 22], []⟩] [0, 1, 2, 23])
(.cond (.tmp 23)
(.seq (.reg false [⟨some 6, .mv (.const (.int .i64 (0))), none, [], []⟩,
    ⟨some 7, .mv (.const (.int .i64 (4))), none, [], []⟩] [6, 7])
.ret)
.skip))
(.seq (.reg false [⟨some 24, .mv (.tmp 1), none, [1], []⟩,
    ⟨some 25, .bin .sub (.const (.int .i64 (8))) (.tmp 24), none, [24], []⟩,
    ⟨some 26, .mv (.tmp 1), none, [1], []⟩,
    ⟨some 27, .bin .add (.const (.int .i64 (8))) (.tmp 26), none, [26], []⟩,
    ⟨some 8, .mv (.tmp 25), none, [25], []⟩,
    ⟨some 9, .mv (.tmp 27), none, [27], []⟩] [0, 2, 8, 9])
(.seq (.reg false [⟨some 28, .mv (.tmp 8), none, [8], []⟩,
    ⟨some 29, .bin .mul (.const (.int .i64 (64))) (.tmp 28), none, [28], []⟩,
    ⟨some 30, .mv (.tmp 2), none, [2], []⟩,
    ⟨some 31, .mv (.tmp 0), none, [0], []⟩,
    ⟨some 32, .bin .sub (.tmp 30) (.tmp 31), none, [30, 31], []⟩,
    ⟨some 33, .bin .mul (.tmp 29) (.tmp 32), none, [29, 32], []⟩,
    ⟨some 34, .mv (.tmp 9), none, [9], []⟩,
    ⟨some 35, .bin .quo (.tmp 33) (.tmp 34), none, [33, 34], []⟩,
    ⟨some 6, .mv (.tmp 35), none, [35], []⟩,
    ⟨some 7, .mv (.const (.int .i64 (0))), none, [], []⟩] [6, 7])
.ret))))
theorem ok_16 : FnOk Try.prog 16 36 ac_16 [.tmp 6, .tmp 7] := ⟨Try.f16, Try.func16, by kernel_rfl, by kernel_rfl, by kernel_rfl, by kernel_rfl, by kernel_rfl⟩
end Go.Proofs.Ytfoeddmbhmfjcaa
/- The program's Clean. -/
namespace Go.Proofs.Ytfoeddmbhmfjcaa
open Go.RowKit
set_option maxRecDepth 100000
def aRec (slot seq : Int) : AV := .agg [.v (.int .i64 slot), .v (.int .i64 seq)]
theorem live_blkok {s : St} {slot : Int} (hok : okSt s) : ∀ b ∈ liveL s slot, okBlk b := by
  intro b hb
  rw [← live_eq] at hb
  unfold rlive at hb
  split at hb
  · rename_i hu
    obtain ⟨hc, k, x, rfl, hx, hf⟩ := usedE_0 hu
    rw [Int.toNat_natCast, hx] at hb
    exact (hok.1.2 x (List.mem_of_getElem? hx)).2.2 b (keepL_mem hb)
  · simp at hb
abbrev L_clean (l : List Blk) (slot seq : Int) (k : Nat × St) : ASt := ⟨envOf [(3, .op 0 0), (4, .op 1 0), (6, fBlks true l), (8, .op 2 0), (9, .v (.int .i64 k.1))],
  heapOf [(0, .row true 66 [.v (.int .i64 slot), .v (.int .i64 seq)]), (1, .row true 36 [.v (.slice none 0 0), .v (.slice none 0 0), .v (.slice none 0 0), .v (.int .i64 0)]), (2, stRow 36 true k.2)], 3⟩
set_option maxHeartbeats 2000000 in
theorem clean_spec (s : St) (slot seq : Int) (nb : Nat) (hok : okSt s) : ASound Try.prog 33 [aSt true s, aRec slot seq] nb (.ret (.tup [aSt true (cl s slot seq).1, .v (.int .i64 (cl s slot seq).2)]) []) := by
  refine ok_33.sound (by simp) ⟨al_aSt s, ⟨trivial, trivial, trivial⟩, trivial⟩ ?_
  simp only [ac_33, aRec, SS, boxA, cellsOf, foffA, loadA, ldA, idxA, fldA, binA, binVal, isSh, intVal, lenA, slenA, pickA, storeA, setN, getN, fillA, extA, beqA, eqsA, eqL, isnilA, unA, unVal, convA, nilA, sconvA, b2sA, b2sOf, bytesOf, mmA, srcA, appA, sliceA, lohi, mkslA, envA, ↓reduceIte, Nat.reduceEqDiff, Nat.reduceAdd, Nat.reduceMul, reduceCtorEq, Nat.reduceLeDiff, fB, fBools, fBlks, fSegs, aBlk, aSg, aSt, stRow, List.drop_zero, List.take_succ_cons, List.take_zero, List.take_nil, Nat.mul_one, Nat.one_mul, List.cons_append, List.nil_append]
  refine ⟨_, logLive_A true s slot _ hok, ?_⟩
  simp only [SS, boxA, cellsOf, foffA, loadA, ldA, idxA, fldA, binA, binVal, isSh, intVal, lenA, slenA, pickA, storeA, setN, getN, fillA, extA, beqA, eqsA, eqL, isnilA, unA, unVal, convA, nilA, sconvA, b2sA, b2sOf, bytesOf, mmA, srcA, appA, sliceA, lohi, mkslA, envA, ↓reduceIte, Nat.reduceEqDiff, Nat.reduceAdd, Nat.reduceMul, reduceCtorEq, Nat.reduceLeDiff, fB, fBools, fBlks, fSegs, aBlk, aSg, aSt, stRow, List.drop_zero, List.take_succ_cons, List.take_zero, List.take_nil, Nat.mul_one, Nat.one_mul, List.cons_append, List.nil_append]
  by_cases hu : liveErr s slot = 0
  · have hu' := hu
    rw [← used_eq] at hu'
    obtain ⟨hc, i, x, rfl, hx, hf⟩ := usedE_0 hu'
    have g := (rchk_iff s).1 hc
    have hlt : i < s.segs.length := by rw [List.getElem?_eq_some_iff] at hx; exact hx.1
    have e1 : (i : Int) < (s.segs.length : Int) := by omega
    have e0 : (0 : Int) ≤ (i : Int) := by omega
    obtain ⟨g0, g1⟩ := get_Segs (fr := true) hx
    have hcl : cl s i seq = if x.seq = seq then clFree i (clPut (liveL s i) s) else (St.zero, 81) := by
      unfold cl
      rw [if_pos hu, Int.toNat_natCast, hx]
    simp only [hu, e1, e0, g0, not_true, SS, boxA, cellsOf, foffA, loadA, ldA, idxA, fldA, binA, binVal, isSh, intVal, lenA, slenA, pickA, storeA, setN, getN, fillA, extA, beqA, eqsA, eqL, isnilA, unA, unVal, convA, nilA, sconvA, b2sA, b2sOf, bytesOf, mmA, srcA, appA, sliceA, lohi, mkslA, envA, ↓reduceIte, Nat.reduceEqDiff, Nat.reduceAdd, Nat.reduceMul, reduceCtorEq, Nat.reduceLeDiff, fB, fBools, fBlks, fSegs, aBlk, aSg, aSt, stRow, List.drop_zero, List.take_succ_cons, List.take_zero, List.take_nil, Nat.mul_one, Nat.one_mul, List.cons_append, List.nil_append]
    by_cases hq : x.seq = seq
    · rw [if_pos hq] at hcl
      simp only [hq, not_true, SS, boxA, cellsOf, foffA, loadA, ldA, idxA, fldA, binA, binVal, isSh, intVal, lenA, slenA, pickA, storeA, setN, getN, fillA, extA, beqA, eqsA, eqL, isnilA, unA, unVal, convA, nilA, sconvA, b2sA, b2sOf, bytesOf, mmA, srcA, appA, sliceA, lohi, mkslA, envA, ↓reduceIte, Nat.reduceEqDiff, Nat.reduceAdd, Nat.reduceMul, reduceCtorEq, Nat.reduceLeDiff, fB, fBools, fBlks, fSegs, aBlk, aSg, aSt, stRow, List.drop_zero, List.take_succ_cons, List.take_zero, List.take_nil, Nat.mul_one, Nat.one_mul, List.cons_append, List.nil_append]
      have hm := live_may (s := s) (slot := (i : Int))
      have hbo := live_blkok (slot := (i : Int)) hok
      have hl8 := (live_len s (i : Int)).1
      generalize liveL s (i : Int) = l at hcl hm hbo hl8 ⊢
      refine ⟨by rfl, ?_⟩
      refine AWc.family (L_clean l i seq) (fun k => k.1 ≤ l.length ∧ Good k.2 ∧ okSt k.2 ∧ clGo (l.drop k.1) k.2 = clGo l s) (fun k => 2 * (l.length - k.1) + (if k.2.opn.length = 8 then 1 else 0)) (0, s) ⟨Nat.zero_le _, g, hok, rfl⟩ ?_ ?_
      · refine Weak.calc [(64, 0), (128, 1), (1664, 2)] (by decide) ?_ ?_ <;> simp [hq, tk_B, tk_Bools, tk_Blks, tk_Segs, AlL_append, renL_append, okL, okH, rowIs, okV, okHV, rowVt, vtL, okF, okHF, rowFz, fzL, fzV, fzOne, nilLike, oldLike, rn, s_envOf, s_envOf0, s_heapOf, s_heapOf0, s_put, s_put0, s_put1, s_app0, s_app1, Al, AlL, ren, renL, al_B, al_Bools, al_Blks, al_Segs, ren_B, ren_Bools, ren_Blks, ren_Segs, fB, fBools, fBlks, fSegs]
      · rintro ⟨k, t⟩ ⟨hk, gt, okt, hgo⟩
        simp only at hk gt okt hgo
        by_cases hlt : k < l.length
        · obtain ⟨b, hb, e1, e0⟩ := lt_at hlt
          have hbm := List.mem_of_getElem? hb
          obtain ⟨g0, g1, g2, g3⟩ := get_Blks3 (fr := true) hb
          have e3 : k * 3 + 3 ≤ l.length * 3 := by omega
          have hd : l.drop k = b :: l.drop (k + 1) := by
            rw [List.getElem?_eq_some_iff] at hb
            obtain ⟨h1, rfl⟩ := hb
            exact List.drop_eq_getElem_cons h1
          rw [hd] at hgo
          simp only [L_clean, g0, g1, g2, g3, e1, e0, e3, len_Blks, SS, boxA, cellsOf, foffA, loadA, ldA, idxA, fldA, binA, binVal, isSh, intVal, lenA, slenA, pickA, storeA, setN, getN, fillA, extA, beqA, eqsA, eqL, isnilA, unA, unVal, convA, nilA, sconvA, b2sA, b2sOf, bytesOf, mmA, srcA, appA, sliceA, lohi, mkslA, envA, ↓reduceIte, Nat.reduceEqDiff, Nat.reduceAdd, Nat.reduceMul, reduceCtorEq, Nat.reduceLeDiff, fB, fBools, fBlks, fSegs, aBlk, aSg, aSt, stRow, List.drop_zero, List.take_succ_cons, List.take_zero, List.take_nil, Nat.mul_one, Nat.one_mul, List.cons_append, List.nil_append]
          refine ⟨_, logPut_A true true t b _ okt (hbo b hbm), ?_⟩
          simp only [SS, boxA, cellsOf, foffA, loadA, ldA, idxA, fldA, binA, binVal, isSh, intVal, lenA, slenA, pickA, storeA, setN, getN, fillA, extA, beqA, eqsA, eqL, isnilA, unA, unVal, convA, nilA, sconvA, b2sA, b2sOf, bytesOf, mmA, srcA, appA, sliceA, lohi, mkslA, envA, ↓reduceIte, Nat.reduceEqDiff, Nat.reduceAdd, Nat.reduceMul, reduceCtorEq, Nat.reduceLeDiff, fB, fBools, fBlks, fSegs, aBlk, aSg, aSt, stRow, List.drop_zero, List.take_succ_cons, List.take_zero, List.take_nil, Nat.mul_one, Nat.one_mul, List.cons_append, List.nil_append]
          refine ⟨by rfl, ?_⟩
          by_cases hp : putErr t b = 0
          · simp only [hp, SS, boxA, cellsOf, foffA, loadA, ldA, idxA, fldA, binA, binVal, isSh, intVal, lenA, slenA, pickA, storeA, setN, getN, fillA, extA, beqA, eqsA, eqL, isnilA, unA, unVal, convA, nilA, sconvA, b2sA, b2sOf, bytesOf, mmA, srcA, appA, sliceA, lohi, mkslA, envA, ↓reduceIte, Nat.reduceEqDiff, Nat.reduceAdd, Nat.reduceMul, reduceCtorEq, Nat.reduceLeDiff, fB, fBools, fBlks, fSegs, aBlk, aSg, aSt, stRow, List.drop_zero, List.take_succ_cons, List.take_zero, List.take_nil, Nat.mul_one, Nat.one_mul, List.cons_append, List.nil_append]
            refine famC_next (k + 1, putSt t b) (by simp only; split <;> split <;> omega) ⟨by simp only; omega, good_put gt (hm b hbm) hp, okSt_put okt (hbo b hbm), by rw [← hgo]; simp [clGo, hp]⟩ ?_
            refine Weak.calc [(0, 0), (1, 1), (2, 2)] (by decide) ?_ ?_ <;> simp [tk_B, tk_Bools, tk_Blks, tk_Segs, AlL_append, renL_append, okL, okH, rowIs, okV, okHV, rowVt, vtL, okF, okHF, rowFz, fzL, fzV, fzOne, nilLike, oldLike, rn, s_envOf, s_envOf0, s_heapOf, s_heapOf0, s_put, s_put0, s_put1, s_app0, s_app1, Al, AlL, ren, renL, al_B, al_Bools, al_Blks, al_Segs, ren_B, ren_Bools, ren_Blks, ren_Segs, fB, fBools, fBlks, fSegs, wrap64 (x := (k : Int) + 1) (by omega)]
          · simp only [hp, SS, boxA, cellsOf, foffA, loadA, ldA, idxA, fldA, binA, binVal, isSh, intVal, lenA, slenA, pickA, storeA, setN, getN, fillA, extA, beqA, eqsA, eqL, isnilA, unA, unVal, convA, nilA, sconvA, b2sA, b2sOf, bytesOf, mmA, srcA, appA, sliceA, lohi, mkslA, envA, ↓reduceIte, Nat.reduceEqDiff, Nat.reduceAdd, Nat.reduceMul, reduceCtorEq, Nat.reduceLeDiff, fB, fBools, fBlks, fSegs, aBlk, aSg, aSt, stRow, List.drop_zero, List.take_succ_cons, List.take_zero, List.take_nil, Nat.mul_one, Nat.one_mul, List.cons_append, List.nil_append]
            refine ⟨_, logSeal_A true t _ okt, ?_⟩
            simp only [SS, boxA, cellsOf, foffA, loadA, ldA, idxA, fldA, binA, binVal, isSh, intVal, lenA, slenA, pickA, storeA, setN, getN, fillA, extA, beqA, eqsA, eqL, isnilA, unA, unVal, convA, nilA, sconvA, b2sA, b2sOf, bytesOf, mmA, srcA, appA, sliceA, lohi, mkslA, envA, ↓reduceIte, Nat.reduceEqDiff, Nat.reduceAdd, Nat.reduceMul, reduceCtorEq, Nat.reduceLeDiff, fB, fBools, fBlks, fSegs, aBlk, aSg, aSt, stRow, List.drop_zero, List.take_succ_cons, List.take_zero, List.take_nil, Nat.mul_one, Nat.one_mul, List.cons_append, List.nil_append]
            have h8 : t.opn.length = 8 := by
              have := put_ok gt (hm b hbm)
              by_cases e : t.opn.length = 8
              · exact e
              · rw [if_neg e] at this; exact absurd this hp
            by_cases hs : slErr t = 0
            · simp only [hs, not_true, SS, boxA, cellsOf, foffA, loadA, ldA, idxA, fldA, binA, binVal, isSh, intVal, lenA, slenA, pickA, storeA, setN, getN, fillA, extA, beqA, eqsA, eqL, isnilA, unA, unVal, convA, nilA, sconvA, b2sA, b2sOf, bytesOf, mmA, srcA, appA, sliceA, lohi, mkslA, envA, ↓reduceIte, Nat.reduceEqDiff, Nat.reduceAdd, Nat.reduceMul, reduceCtorEq, Nat.reduceLeDiff, fB, fBools, fBlks, fSegs, aBlk, aSg, aSt, stRow, List.drop_zero, List.take_succ_cons, List.take_zero, List.take_nil, Nat.mul_one, Nat.one_mul, List.cons_append, List.nil_append]
              have gs := good_seal gt hs
              have h2 : putErr (slSt t) b = 0 := by rw [put_ok gs (hm b hbm), seal_opn hs]; rfl
              refine famC_next (k, slSt t) (by simp only [seal_opn hs, h8]; simp) ⟨by simp only; omega, gs, okSt_seal okt, by rw [← hgo]; simp only; rw [hd]; simp [clGo, hp, hs, h2]⟩ ?_
              refine Weak.calc [(0, 0), (1, 1), (2, 2)] (by decide) ?_ ?_ <;> simp [tk_B, tk_Bools, tk_Blks, tk_Segs, AlL_append, renL_append, okL, okH, rowIs, okV, okHV, rowVt, vtL, okF, okHF, rowFz, fzL, fzV, fzOne, nilLike, oldLike, rn, s_envOf, s_envOf0, s_heapOf, s_heapOf0, s_put, s_put0, s_put1, s_app0, s_app1, Al, AlL, ren, renL, al_B, al_Bools, al_Blks, al_Segs, ren_B, ren_Bools, ren_Blks, ren_Segs, fB, fBools, fBlks, fSegs]
            · simp only [hs, not_false_eq_true, SS, boxA, cellsOf, foffA, loadA, ldA, idxA, fldA, binA, binVal, isSh, intVal, lenA, slenA, pickA, storeA, setN, getN, fillA, extA, beqA, eqsA, eqL, isnilA, unA, unVal, convA, nilA, sconvA, b2sA, b2sOf, bytesOf, mmA, srcA, appA, sliceA, lohi, mkslA, envA, ↓reduceIte, Nat.reduceEqDiff, Nat.reduceAdd, Nat.reduceMul, reduceCtorEq, Nat.reduceLeDiff, fB, fBools, fBlks, fSegs, aBlk, aSg, aSt, stRow, List.drop_zero, List.take_succ_cons, List.take_zero, List.take_nil, Nat.mul_one, Nat.one_mul, List.cons_append, List.nil_append]
              have hg2 : clGo l s = (St.zero, slErr t) := by rw [← hgo]; simp [clGo, hp, hs]
              rw [hcl, clPut, hg2]
              simp only [hs, if_false, clFree]
              exact Ends.zero (by simp [resL, resOne, tupOf, getN, s_envOf, s_envOf0, s_heapOf, s_heapOf0, s_put1, s_app0, s_app1])
        · obtain rfl : k = l.length := by omega
          have e1 : ¬ ((l.length : Int) < (l.length : Int)) := by omega
          rw [List.drop_length] at hgo
          have hg2 : clGo l s = (t, 0) := by rw [← hgo]; rfl
          simp only [L_clean, e1, SS, boxA, cellsOf, foffA, loadA, ldA, idxA, fldA, binA, binVal, isSh, intVal, lenA, slenA, pickA, storeA, setN, getN, fillA, extA, beqA, eqsA, eqL, isnilA, unA, unVal, convA, nilA, sconvA, b2sA, b2sOf, bytesOf, mmA, srcA, appA, sliceA, lohi, mkslA, envA, ↓reduceIte, Nat.reduceEqDiff, Nat.reduceAdd, Nat.reduceMul, reduceCtorEq, Nat.reduceLeDiff, fB, fBools, fBlks, fSegs, aBlk, aSg, aSt, stRow, List.drop_zero, List.take_succ_cons, List.take_zero, List.take_nil, Nat.mul_one, Nat.one_mul, List.cons_append, List.nil_append]
          by_cases hl0 : l.length = 0
          · have e2 : ¬ (0 : Int) < (l.length : Int) := by omega
            simp only [e2, SS, boxA, cellsOf, foffA, loadA, ldA, idxA, fldA, binA, binVal, isSh, intVal, lenA, slenA, pickA, storeA, setN, getN, fillA, extA, beqA, eqsA, eqL, isnilA, unA, unVal, convA, nilA, sconvA, b2sA, b2sOf, bytesOf, mmA, srcA, appA, sliceA, lohi, mkslA, envA, ↓reduceIte, Nat.reduceEqDiff, Nat.reduceAdd, Nat.reduceMul, reduceCtorEq, Nat.reduceLeDiff, fB, fBools, fBlks, fSegs, aBlk, aSg, aSt, stRow, List.drop_zero, List.take_succ_cons, List.take_zero, List.take_nil, Nat.mul_one, Nat.one_mul, List.cons_append, List.nil_append]
            have hc2 : cl s i seq = (frSt t i, frErr t i) := by rw [hcl, clPut, hg2]; simp [clEnd, hl0, clFree]
            rw [hc2]
            refine ⟨_, logFree_A true t i _ okt, ?_⟩
            simp only [SS, boxA, cellsOf, foffA, loadA, ldA, idxA, fldA, binA, binVal, isSh, intVal, lenA, slenA, pickA, storeA, setN, getN, fillA, extA, beqA, eqsA, eqL, isnilA, unA, unVal, convA, nilA, sconvA, b2sA, b2sOf, bytesOf, mmA, srcA, appA, sliceA, lohi, mkslA, envA, ↓reduceIte, Nat.reduceEqDiff, Nat.reduceAdd, Nat.reduceMul, reduceCtorEq, Nat.reduceLeDiff, fB, fBools, fBlks, fSegs, aBlk, aSg, aSt, stRow, List.drop_zero, List.take_succ_cons, List.take_zero, List.take_nil, Nat.mul_one, Nat.one_mul, List.cons_append, List.nil_append]
            by_cases hfr : frErr t i = 0
            · simp only [hfr, not_true, SS, boxA, cellsOf, foffA, loadA, ldA, idxA, fldA, binA, binVal, isSh, intVal, lenA, slenA, pickA, storeA, setN, getN, fillA, extA, beqA, eqsA, eqL, isnilA, unA, unVal, convA, nilA, sconvA, b2sA, b2sOf, bytesOf, mmA, srcA, appA, sliceA, lohi, mkslA, envA, ↓reduceIte, Nat.reduceEqDiff, Nat.reduceAdd, Nat.reduceMul, reduceCtorEq, Nat.reduceLeDiff, fB, fBools, fBlks, fSegs, aBlk, aSg, aSt, stRow, List.drop_zero, List.take_succ_cons, List.take_zero, List.take_nil, Nat.mul_one, Nat.one_mul, List.cons_append, List.nil_append]
              exact Ends.data (.inr rfl) (by simp [resL, resOne, tupOf, getN, s_envOf, s_envOf0, s_heapOf, s_heapOf0, s_put1, s_app0, s_app1]) ⟨al_aSt (frSt t i), trivial, trivial⟩
            · simp only [hfr, not_false_eq_true, SS, boxA, cellsOf, foffA, loadA, ldA, idxA, fldA, binA, binVal, isSh, intVal, lenA, slenA, pickA, storeA, setN, getN, fillA, extA, beqA, eqsA, eqL, isnilA, unA, unVal, convA, nilA, sconvA, b2sA, b2sOf, bytesOf, mmA, srcA, appA, sliceA, lohi, mkslA, envA, ↓reduceIte, Nat.reduceEqDiff, Nat.reduceAdd, Nat.reduceMul, reduceCtorEq, Nat.reduceLeDiff, fB, fBools, fBlks, fSegs, aBlk, aSg, aSt, stRow, List.drop_zero, List.take_succ_cons, List.take_zero, List.take_nil, Nat.mul_one, Nat.one_mul, List.cons_append, List.nil_append]
              rw [show frSt t i = St.zero from if_neg hfr]
              exact Ends.zero (by simp [resL, resOne, tupOf, getN, s_envOf, s_envOf0, s_heapOf, s_heapOf0, s_put1, s_app0, s_app1])
          · have e2 : (0 : Int) < (l.length : Int) := by omega
            simp only [e2, SS, boxA, cellsOf, foffA, loadA, ldA, idxA, fldA, binA, binVal, isSh, intVal, lenA, slenA, pickA, storeA, setN, getN, fillA, extA, beqA, eqsA, eqL, isnilA, unA, unVal, convA, nilA, sconvA, b2sA, b2sOf, bytesOf, mmA, srcA, appA, sliceA, lohi, mkslA, envA, ↓reduceIte, Nat.reduceEqDiff, Nat.reduceAdd, Nat.reduceMul, reduceCtorEq, Nat.reduceLeDiff, fB, fBools, fBlks, fSegs, aBlk, aSg, aSt, stRow, List.drop_zero, List.take_succ_cons, List.take_zero, List.take_nil, Nat.mul_one, Nat.one_mul, List.cons_append, List.nil_append]
            refine ⟨_, logSeal_A true t _ okt, ?_⟩
            simp only [SS, boxA, cellsOf, foffA, loadA, ldA, idxA, fldA, binA, binVal, isSh, intVal, lenA, slenA, pickA, storeA, setN, getN, fillA, extA, beqA, eqsA, eqL, isnilA, unA, unVal, convA, nilA, sconvA, b2sA, b2sOf, bytesOf, mmA, srcA, appA, sliceA, lohi, mkslA, envA, ↓reduceIte, Nat.reduceEqDiff, Nat.reduceAdd, Nat.reduceMul, reduceCtorEq, Nat.reduceLeDiff, fB, fBools, fBlks, fSegs, aBlk, aSg, aSt, stRow, List.drop_zero, List.take_succ_cons, List.take_zero, List.take_nil, Nat.mul_one, Nat.one_mul, List.cons_append, List.nil_append]
            by_cases hs : slErr t = 0
            · simp only [hs, not_true, SS, boxA, cellsOf, foffA, loadA, ldA, idxA, fldA, binA, binVal, isSh, intVal, lenA, slenA, pickA, storeA, setN, getN, fillA, extA, beqA, eqsA, eqL, isnilA, unA, unVal, convA, nilA, sconvA, b2sA, b2sOf, bytesOf, mmA, srcA, appA, sliceA, lohi, mkslA, envA, ↓reduceIte, Nat.reduceEqDiff, Nat.reduceAdd, Nat.reduceMul, reduceCtorEq, Nat.reduceLeDiff, fB, fBools, fBlks, fSegs, aBlk, aSg, aSt, stRow, List.drop_zero, List.take_succ_cons, List.take_zero, List.take_nil, Nat.mul_one, Nat.one_mul, List.cons_append, List.nil_append]
              have hc2 : cl s i seq = (frSt (slSt t) i, frErr (slSt t) i) := by rw [hcl, clPut, hg2]; simp [clEnd, hl0, hs, clFree]
              rw [hc2]
              refine ⟨_, logFree_A true (slSt t) i _ (okSt_seal okt), ?_⟩
              simp only [SS, boxA, cellsOf, foffA, loadA, ldA, idxA, fldA, binA, binVal, isSh, intVal, lenA, slenA, pickA, storeA, setN, getN, fillA, extA, beqA, eqsA, eqL, isnilA, unA, unVal, convA, nilA, sconvA, b2sA, b2sOf, bytesOf, mmA, srcA, appA, sliceA, lohi, mkslA, envA, ↓reduceIte, Nat.reduceEqDiff, Nat.reduceAdd, Nat.reduceMul, reduceCtorEq, Nat.reduceLeDiff, fB, fBools, fBlks, fSegs, aBlk, aSg, aSt, stRow, List.drop_zero, List.take_succ_cons, List.take_zero, List.take_nil, Nat.mul_one, Nat.one_mul, List.cons_append, List.nil_append]
              by_cases hfr : frErr (slSt t) i = 0
              · simp only [hfr, not_true, SS, boxA, cellsOf, foffA, loadA, ldA, idxA, fldA, binA, binVal, isSh, intVal, lenA, slenA, pickA, storeA, setN, getN, fillA, extA, beqA, eqsA, eqL, isnilA, unA, unVal, convA, nilA, sconvA, b2sA, b2sOf, bytesOf, mmA, srcA, appA, sliceA, lohi, mkslA, envA, ↓reduceIte, Nat.reduceEqDiff, Nat.reduceAdd, Nat.reduceMul, reduceCtorEq, Nat.reduceLeDiff, fB, fBools, fBlks, fSegs, aBlk, aSg, aSt, stRow, List.drop_zero, List.take_succ_cons, List.take_zero, List.take_nil, Nat.mul_one, Nat.one_mul, List.cons_append, List.nil_append]
                exact Ends.data (.inr rfl) (by simp [resL, resOne, tupOf, getN, s_envOf, s_envOf0, s_heapOf, s_heapOf0, s_put1, s_app0, s_app1]) ⟨al_aSt (frSt (slSt t) i), trivial, trivial⟩
              · simp only [hfr, not_false_eq_true, SS, boxA, cellsOf, foffA, loadA, ldA, idxA, fldA, binA, binVal, isSh, intVal, lenA, slenA, pickA, storeA, setN, getN, fillA, extA, beqA, eqsA, eqL, isnilA, unA, unVal, convA, nilA, sconvA, b2sA, b2sOf, bytesOf, mmA, srcA, appA, sliceA, lohi, mkslA, envA, ↓reduceIte, Nat.reduceEqDiff, Nat.reduceAdd, Nat.reduceMul, reduceCtorEq, Nat.reduceLeDiff, fB, fBools, fBlks, fSegs, aBlk, aSg, aSt, stRow, List.drop_zero, List.take_succ_cons, List.take_zero, List.take_nil, Nat.mul_one, Nat.one_mul, List.cons_append, List.nil_append]
                rw [show frSt (slSt t) i = St.zero from if_neg hfr]
                exact Ends.zero (by simp [resL, resOne, tupOf, getN, s_envOf, s_envOf0, s_heapOf, s_heapOf0, s_put1, s_app0, s_app1])
            · simp only [hs, not_false_eq_true, SS, boxA, cellsOf, foffA, loadA, ldA, idxA, fldA, binA, binVal, isSh, intVal, lenA, slenA, pickA, storeA, setN, getN, fillA, extA, beqA, eqsA, eqL, isnilA, unA, unVal, convA, nilA, sconvA, b2sA, b2sOf, bytesOf, mmA, srcA, appA, sliceA, lohi, mkslA, envA, ↓reduceIte, Nat.reduceEqDiff, Nat.reduceAdd, Nat.reduceMul, reduceCtorEq, Nat.reduceLeDiff, fB, fBools, fBlks, fSegs, aBlk, aSg, aSt, stRow, List.drop_zero, List.take_succ_cons, List.take_zero, List.take_nil, Nat.mul_one, Nat.one_mul, List.cons_append, List.nil_append]
              have hc2 : cl s i seq = (St.zero, slErr t) := by rw [hcl, clPut, hg2]; simp [clEnd, hl0, hs, clFree]
              rw [hc2]
              exact Ends.zero (by simp [resL, resOne, tupOf, getN, s_envOf, s_envOf0, s_heapOf, s_heapOf0, s_put1, s_app0, s_app1])
    · rw [if_neg hq] at hcl
      simp only [hq, not_false_eq_true, SS, boxA, cellsOf, foffA, loadA, ldA, idxA, fldA, binA, binVal, isSh, intVal, lenA, slenA, pickA, storeA, setN, getN, fillA, extA, beqA, eqsA, eqL, isnilA, unA, unVal, convA, nilA, sconvA, b2sA, b2sOf, bytesOf, mmA, srcA, appA, sliceA, lohi, mkslA, envA, ↓reduceIte, Nat.reduceEqDiff, Nat.reduceAdd, Nat.reduceMul, reduceCtorEq, Nat.reduceLeDiff, fB, fBools, fBlks, fSegs, aBlk, aSg, aSt, stRow, List.drop_zero, List.take_succ_cons, List.take_zero, List.take_nil, Nat.mul_one, Nat.one_mul, List.cons_append, List.nil_append]
      refine ⟨by rfl, ?_⟩
      rw [hcl]
      exact Ends.zero (by simp [resL, resOne, tupOf, getN, s_envOf, s_envOf0, s_heapOf, s_heapOf0, s_put1, s_app0, s_app1])
  · have hcl : cl s slot seq = (St.zero, liveErr s slot) := by unfold cl; rw [if_neg hu]
    simp only [hu, not_false_eq_true, SS, boxA, cellsOf, foffA, loadA, ldA, idxA, fldA, binA, binVal, isSh, intVal, lenA, slenA, pickA, storeA, setN, getN, fillA, extA, beqA, eqsA, eqL, isnilA, unA, unVal, convA, nilA, sconvA, b2sA, b2sOf, bytesOf, mmA, srcA, appA, sliceA, lohi, mkslA, envA, ↓reduceIte, Nat.reduceEqDiff, Nat.reduceAdd, Nat.reduceMul, reduceCtorEq, Nat.reduceLeDiff, fB, fBools, fBlks, fSegs, aBlk, aSg, aSt, stRow, List.drop_zero, List.take_succ_cons, List.take_zero, List.take_nil, Nat.mul_one, Nat.one_mul, List.cons_append, List.nil_append]
    rw [hcl]
    exact Ends.zero (by simp [resL, resOne, tupOf, getN, s_envOf, s_envOf0, s_heapOf, s_heapOf0, s_put1, s_app0, s_app1])
end Go.Proofs.Ytfoeddmbhmfjcaa
/- A cleaning's log can be held. -/
namespace Go.Proofs.Ytfoeddmbhmfjcaa
open Go.RowKit
theorem okSt_go : ∀ (l : List Blk) (t : St), okSt t → (∀ b ∈ l, okBlk b) → okSt (clGo l t).1
  | [], t, h, _ => h
  | b :: l, t, h, hb => by
    rw [clGo]
    split
    · exact okSt_go l _ (okSt_put h (hb b (by simp))) (fun c hc => hb c (by simp [hc]))
    · split
      · exact okSt_go l _ (okSt_put (okSt_seal h) (hb b (by simp))) (fun c hc => hb c (by simp [hc]))
      · exact okSt_zero
theorem okSt_cl {s : St} {slot seq : Int} (h : okSt s) : okSt (cl s slot seq).1 := by
  unfold cl
  split
  · split
    · split
      · unfold clFree
        split
        · refine okSt_free ?_
          unfold clPut
          split
          · unfold clEnd
            split
            · exact okSt_go _ _ h (live_blkok h)
            · split
              · exact okSt_seal (okSt_go _ _ h (live_blkok h))
              · exact okSt_zero
          · exact okSt_zero
        · exact okSt_zero
      · exact okSt_zero
    · exact okSt_zero
  · exact okSt_zero
end Go.Proofs.Ytfoeddmbhmfjcaa
/- Score; alive of law 16; CleanNever. -/
namespace Go.Proofs.Ytfoeddmbhmfjcaa
open Go.RowKit
set_option maxRecDepth 100000
theorem within_spec (n low high : Int) (nb : Nat) : ASound Try.prog 48 [.v (.int .i64 n), .v (.int .i64 low), .v (.int .i64 high)] nb (.ret (.v (.bool (decide (low ≤ n ∧ n ≤ high)))) []) := by
  refine ok_48.sound (by simp) ⟨trivial, trivial, trivial, trivial⟩ ?_
  simp only [ac_48, SS, boxA, cellsOf, foffA, loadA, ldA, idxA, fldA, binA, binVal, isSh, intVal, lenA, slenA, pickA, storeA, setN, getN, fillA, extA, beqA, eqsA, eqL, isnilA, unA, unVal, convA, nilA, sconvA, b2sA, b2sOf, bytesOf, mmA, srcA, appA, sliceA, lohi, mkslA, envA, ↓reduceIte, Nat.reduceEqDiff, Nat.reduceAdd, Nat.reduceMul, reduceCtorEq, Nat.reduceLeDiff, fB, fBools, fBlks, fSegs, aBlk, aSg, aSt, stRow, List.drop_zero, List.take_succ_cons, List.take_zero, List.take_nil, Nat.mul_one, Nat.one_mul, List.cons_append, List.nil_append]
  by_cases h1 : low ≤ n
  · simp only [h1, SS, boxA, cellsOf, foffA, loadA, ldA, idxA, fldA, binA, binVal, isSh, intVal, lenA, slenA, pickA, storeA, setN, getN, fillA, extA, beqA, eqsA, eqL, isnilA, unA, unVal, convA, nilA, sconvA, b2sA, b2sOf, bytesOf, mmA, srcA, appA, sliceA, lohi, mkslA, envA, ↓reduceIte, Nat.reduceEqDiff, Nat.reduceAdd, Nat.reduceMul, reduceCtorEq, Nat.reduceLeDiff, fB, fBools, fBlks, fSegs, aBlk, aSg, aSt, stRow, List.drop_zero, List.take_succ_cons, List.take_zero, List.take_nil, Nat.mul_one, Nat.one_mul, List.cons_append, List.nil_append]
    exact Ends.data (.inr rfl) (by simp [h1, resL, resOne, tupOf, getN, s_envOf, s_envOf0, s_heapOf, s_heapOf0, s_put1, s_app0, s_app1]) trivial
  · simp only [h1, SS, boxA, cellsOf, foffA, loadA, ldA, idxA, fldA, binA, binVal, isSh, intVal, lenA, slenA, pickA, storeA, setN, getN, fillA, extA, beqA, eqsA, eqL, isnilA, unA, unVal, convA, nilA, sconvA, b2sA, b2sOf, bytesOf, mmA, srcA, appA, sliceA, lohi, mkslA, envA, ↓reduceIte, Nat.reduceEqDiff, Nat.reduceAdd, Nat.reduceMul, reduceCtorEq, Nat.reduceLeDiff, fB, fBools, fBlks, fSegs, aBlk, aSg, aSt, stRow, List.drop_zero, List.take_succ_cons, List.take_zero, List.take_nil, Nat.mul_one, Nat.one_mul, List.cons_append, List.nil_append]
    exact Ends.data (.inr rfl) (by simp [h1, resL, resOne, tupOf, getN, s_envOf, s_envOf0, s_heapOf, s_heapOf0, s_put1, s_app0, s_app1]) trivial
def scOk (seq live next : Int) : Bool := decide ((1 ≤ seq ∧ seq ≤ 1099511627776) ∧ (0 ≤ live ∧ live ≤ 8) ∧ (seq ≤ next ∧ next ≤ 1099511627776))
def scV (seq live next : Int) : Int := if scOk seq live next = true then (64 * (8 - live) * (next - seq)).tdiv (8 + live) else 0
def scE (seq live next : Int) : Int := if scOk seq live next = true then 0 else 4
theorem sc_size {a b c : Int} (h1 : 0 ≤ a) (h2 : a ≤ 8) (h3 : 0 ≤ b) (h4 : b ≤ 1099511627776) : 0 ≤ 64 * a * b ∧ 64 * a * b ≤ 562949953421312 := by
  refine ⟨Int.mul_nonneg (by omega) h3, ?_⟩
  have h5 : 64 * a * b ≤ 512 * b := Int.mul_le_mul_of_nonneg_right (by omega) h3
  omega
theorem score_spec (seq live next : Int) (nb : Nat) : ASound Try.prog 16 [.v (.int .i64 seq), .v (.int .i64 live), .v (.int .i64 next)] nb (.ret (.tup [.v (.int .i64 (scV seq live next)), .v (.int .i64 (scE seq live next))]) []) := by
  refine ok_16.sound (by simp) ⟨trivial, trivial, trivial, trivial⟩ ?_
  simp only [ac_16, SS, boxA, cellsOf, foffA, loadA, ldA, idxA, fldA, binA, binVal, isSh, intVal, lenA, slenA, pickA, storeA, setN, getN, fillA, extA, beqA, eqsA, eqL, isnilA, unA, unVal, convA, nilA, sconvA, b2sA, b2sOf, bytesOf, mmA, srcA, appA, sliceA, lohi, mkslA, envA, ↓reduceIte, Nat.reduceEqDiff, Nat.reduceAdd, Nat.reduceMul, reduceCtorEq, Nat.reduceLeDiff, fB, fBools, fBlks, fSegs, aBlk, aSg, aSt, stRow, List.drop_zero, List.take_succ_cons, List.take_zero, List.take_nil, Nat.mul_one, Nat.one_mul, List.cons_append, List.nil_append]
  refine ⟨_, within_spec seq 1 1099511627776 _, ?_⟩
  by_cases h1 : 1 ≤ seq ∧ seq ≤ 1099511627776
  · simp only [h1, decide_true, Bool.not_true, SS, boxA, cellsOf, foffA, loadA, ldA, idxA, fldA, binA, binVal, isSh, intVal, lenA, slenA, pickA, storeA, setN, getN, fillA, extA, beqA, eqsA, eqL, isnilA, unA, unVal, convA, nilA, sconvA, b2sA, b2sOf, bytesOf, mmA, srcA, appA, sliceA, lohi, mkslA, envA, ↓reduceIte, Nat.reduceEqDiff, Nat.reduceAdd, Nat.reduceMul, reduceCtorEq, Nat.reduceLeDiff, fB, fBools, fBlks, fSegs, aBlk, aSg, aSt, stRow, List.drop_zero, List.take_succ_cons, List.take_zero, List.take_nil, Nat.mul_one, Nat.one_mul, List.cons_append, List.nil_append]
    refine ⟨_, within_spec live 0 8 _, ?_⟩
    by_cases h2 : 0 ≤ live ∧ live ≤ 8
    · simp only [h2, decide_true, Bool.not_true, SS, boxA, cellsOf, foffA, loadA, ldA, idxA, fldA, binA, binVal, isSh, intVal, lenA, slenA, pickA, storeA, setN, getN, fillA, extA, beqA, eqsA, eqL, isnilA, unA, unVal, convA, nilA, sconvA, b2sA, b2sOf, bytesOf, mmA, srcA, appA, sliceA, lohi, mkslA, envA, ↓reduceIte, Nat.reduceEqDiff, Nat.reduceAdd, Nat.reduceMul, reduceCtorEq, Nat.reduceLeDiff, fB, fBools, fBlks, fSegs, aBlk, aSg, aSt, stRow, List.drop_zero, List.take_succ_cons, List.take_zero, List.take_nil, Nat.mul_one, Nat.one_mul, List.cons_append, List.nil_append]
      refine ⟨_, within_spec next seq 1099511627776 _, ?_⟩
      by_cases h3 : seq ≤ next ∧ next ≤ 1099511627776
      · have ok : scOk seq live next = true := by simp only [scOk, h1, h2, h3]; decide
        have s1 := sc_size (c := 0) (a := 8 - live) (b := next - seq) (by omega) (by omega) (by omega) (by omega)
        have w1 : IntKind.i64.wrap (8 - live) = 8 - live := wrap64 (by omega)
        have w2 : IntKind.i64.wrap (8 + live) = 8 + live := wrap64 (by omega)
        have w3 : IntKind.i64.wrap (64 * (8 - live)) = 64 * (8 - live) := wrap64 (by omega)
        have w4 : IntKind.i64.wrap (next - seq) = next - seq := wrap64 (by omega)
        have w5 : IntKind.i64.wrap (64 * (8 - live) * (next - seq)) = 64 * (8 - live) * (next - seq) := wrap64 (by omega)
        have e8 : ¬ (8 + live = 0) := by omega
        have d1 : 0 ≤ (64 * (8 - live) * (next - seq)).tdiv (8 + live) := Int.tdiv_nonneg s1.1 (by omega)
        have d2 : (64 * (8 - live) * (next - seq)).tdiv (8 + live) ≤ 64 * (8 - live) * (next - seq) := Int.tdiv_le_self _ s1.1
        have w6 : IntKind.i64.wrap ((64 * (8 - live) * (next - seq)).tdiv (8 + live)) = (64 * (8 - live) * (next - seq)).tdiv (8 + live) := wrap64 (by omega)
        rw [show scV seq live next = _ from if_pos ok, show scE seq live next = _ from if_pos ok]
        simp only [h3, decide_true, Bool.not_true, w1, w2, w3, w4, w5, w6, e8, SS, boxA, cellsOf, foffA, loadA, ldA, idxA, fldA, binA, binVal, isSh, intVal, lenA, slenA, pickA, storeA, setN, getN, fillA, extA, beqA, eqsA, eqL, isnilA, unA, unVal, convA, nilA, sconvA, b2sA, b2sOf, bytesOf, mmA, srcA, appA, sliceA, lohi, mkslA, envA, ↓reduceIte, Nat.reduceEqDiff, Nat.reduceAdd, Nat.reduceMul, reduceCtorEq, Nat.reduceLeDiff, fB, fBools, fBlks, fSegs, aBlk, aSg, aSt, stRow, List.drop_zero, List.take_succ_cons, List.take_zero, List.take_nil, Nat.mul_one, Nat.one_mul, List.cons_append, List.nil_append]
        exact Ends.data (.inr rfl) (by simp [w6, resL, resOne, tupOf, getN, s_envOf, s_envOf0, s_heapOf, s_heapOf0, s_put1, s_app0, s_app1]) ⟨trivial, trivial, trivial⟩
      · have ok : ¬ scOk seq live next = true := by simp only [scOk, h3]; simp
        rw [show scV seq live next = _ from if_neg ok, show scE seq live next = _ from if_neg ok]
        simp only [h3, decide_false, Bool.not_false, SS, boxA, cellsOf, foffA, loadA, ldA, idxA, fldA, binA, binVal, isSh, intVal, lenA, slenA, pickA, storeA, setN, getN, fillA, extA, beqA, eqsA, eqL, isnilA, unA, unVal, convA, nilA, sconvA, b2sA, b2sOf, bytesOf, mmA, srcA, appA, sliceA, lohi, mkslA, envA, ↓reduceIte, Nat.reduceEqDiff, Nat.reduceAdd, Nat.reduceMul, reduceCtorEq, Nat.reduceLeDiff, fB, fBools, fBlks, fSegs, aBlk, aSg, aSt, stRow, List.drop_zero, List.take_succ_cons, List.take_zero, List.take_nil, Nat.mul_one, Nat.one_mul, List.cons_append, List.nil_append]
        exact Ends.data (.inr rfl) (by simp [resL, resOne, tupOf, getN, s_envOf, s_envOf0, s_heapOf, s_heapOf0, s_put1, s_app0, s_app1]) ⟨trivial, trivial, trivial⟩
    · have ok : ¬ scOk seq live next = true := by simp only [scOk, h2]; simp
      rw [show scV seq live next = _ from if_neg ok, show scE seq live next = _ from if_neg ok]
      simp only [h2, decide_false, Bool.not_false, SS, boxA, cellsOf, foffA, loadA, ldA, idxA, fldA, binA, binVal, isSh, intVal, lenA, slenA, pickA, storeA, setN, getN, fillA, extA, beqA, eqsA, eqL, isnilA, unA, unVal, convA, nilA, sconvA, b2sA, b2sOf, bytesOf, mmA, srcA, appA, sliceA, lohi, mkslA, envA, ↓reduceIte, Nat.reduceEqDiff, Nat.reduceAdd, Nat.reduceMul, reduceCtorEq, Nat.reduceLeDiff, fB, fBools, fBlks, fSegs, aBlk, aSg, aSt, stRow, List.drop_zero, List.take_succ_cons, List.take_zero, List.take_nil, Nat.mul_one, Nat.one_mul, List.cons_append, List.nil_append]
      exact Ends.data (.inr rfl) (by simp [resL, resOne, tupOf, getN, s_envOf, s_envOf0, s_heapOf, s_heapOf0, s_put1, s_app0, s_app1]) ⟨trivial, trivial, trivial⟩
  · have ok : ¬ scOk seq live next = true := by simp only [scOk, h1]; simp
    rw [show scV seq live next = _ from if_neg ok, show scE seq live next = _ from if_neg ok]
    simp only [h1, decide_false, Bool.not_false, SS, boxA, cellsOf, foffA, loadA, ldA, idxA, fldA, binA, binVal, isSh, intVal, lenA, slenA, pickA, storeA, setN, getN, fillA, extA, beqA, eqsA, eqL, isnilA, unA, unVal, convA, nilA, sconvA, b2sA, b2sOf, bytesOf, mmA, srcA, appA, sliceA, lohi, mkslA, envA, ↓reduceIte, Nat.reduceEqDiff, Nat.reduceAdd, Nat.reduceMul, reduceCtorEq, Nat.reduceLeDiff, fB, fBools, fBlks, fSegs, aBlk, aSg, aSt, stRow, List.drop_zero, List.take_succ_cons, List.take_zero, List.take_nil, Nat.mul_one, Nat.one_mul, List.cons_append, List.nil_append]
    exact Ends.data (.inr rfl) (by simp [resL, resOne, tupOf, getN, s_envOf, s_envOf0, s_heapOf, s_heapOf0, s_put1, s_app0, s_app1]) ⟨trivial, trivial, trivial⟩
theorem alive16_spec (nb : Nat) : ASound Try.prog 15 [] nb (.ret (.v (.bool true)) []) := by
  refine ok_15.sound (by simp) trivial ?_
  simp only [ac_15, SS, boxA, cellsOf, foffA, loadA, ldA, idxA, fldA, binA, binVal, isSh, intVal, lenA, slenA, pickA, storeA, setN, getN, fillA, extA, beqA, eqsA, eqL, isnilA, unA, unVal, convA, nilA, sconvA, b2sA, b2sOf, bytesOf, mmA, srcA, appA, sliceA, lohi, mkslA, envA, ↓reduceIte, Nat.reduceEqDiff, Nat.reduceAdd, Nat.reduceMul, reduceCtorEq, Nat.reduceLeDiff, fB, fBools, fBlks, fSegs, aBlk, aSg, aSt, stRow, List.drop_zero, List.take_succ_cons, List.take_zero, List.take_nil, Nat.mul_one, Nat.one_mul, List.cons_append, List.nil_append]
  refine ⟨_, score_spec 1 2 9 _, ?_⟩
  rw [show scV 1 2 9 = 307 from by kernel_rfl, show scE 1 2 9 = 0 from by kernel_rfl]
  simp only [SS, boxA, cellsOf, foffA, loadA, ldA, idxA, fldA, binA, binVal, isSh, intVal, lenA, slenA, pickA, storeA, setN, getN, fillA, extA, beqA, eqsA, eqL, isnilA, unA, unVal, convA, nilA, sconvA, b2sA, b2sOf, bytesOf, mmA, srcA, appA, sliceA, lohi, mkslA, envA, ↓reduceIte, Nat.reduceEqDiff, Nat.reduceAdd, Nat.reduceMul, reduceCtorEq, Nat.reduceLeDiff, fB, fBools, fBlks, fSegs, aBlk, aSg, aSt, stRow, List.drop_zero, List.take_succ_cons, List.take_zero, List.take_nil, Nat.mul_one, Nat.one_mul, List.cons_append, List.nil_append]
  refine ⟨_, num16_spec 0 _, ?_⟩
  simp only [SS, boxA, cellsOf, foffA, loadA, ldA, idxA, fldA, binA, binVal, isSh, intVal, lenA, slenA, pickA, storeA, setN, getN, fillA, extA, beqA, eqsA, eqL, isnilA, unA, unVal, convA, nilA, sconvA, b2sA, b2sOf, bytesOf, mmA, srcA, appA, sliceA, lohi, mkslA, envA, ↓reduceIte, Nat.reduceEqDiff, Nat.reduceAdd, Nat.reduceMul, reduceCtorEq, Nat.reduceLeDiff, fB, fBools, fBlks, fSegs, aBlk, aSg, aSt, stRow, List.drop_zero, List.take_succ_cons, List.take_zero, List.take_nil, Nat.mul_one, Nat.one_mul, List.cons_append, List.nil_append]
  exact Ends.data (.inr rfl) (by simp [resL, resOne, tupOf, getN, s_envOf, s_envOf0, s_heapOf, s_heapOf0, s_put1, s_app0, s_app1]) trivial
end Go.Proofs.Ytfoeddmbhmfjcaa
/- CleanNever. -/
namespace Go.Proofs.Ytfoeddmbhmfjcaa
open Go.RowKit
set_option maxRecDepth 100000
theorem cl_bad {s : St} {slot seq : Int} {e : Int} (h : liveErr s slot = e) (he : e ≠ 0) : cl s slot seq = (St.zero, e) := by
  unfold cl; rw [if_neg (by rw [h]; exact he), h]
theorem liveErr_out {s : St} {slot : Int} (hc : chk s = true) (h : slot < 0 ∨ (s.segs.length : Int) ≤ slot) : liveErr s slot = 71 := by
  unfold liveErr
  rw [if_pos hc]
  rcases h with h | h
  · rw [slot_neg h]; rfl
  · rw [slot_big h]; rfl
theorem liveErr_in {s : St} {k : Nat} {x : Sg} (hc : chk s = true) (hx : s.segs[k]? = some x) : liveErr s (k : Int) = if x.seq = 0 then 71 else 0 := by
  have g := (chk_iff s).1 hc
  unfold liveErr
  rw [if_pos hc, slot_at hx]
  by_cases hq : x.seq = 0
  · have hf : freeB x = true := by
      cases hf : freeB x with
      | true => rfl
      | false =>
        have h1 := (g.seg k x hx hf).1
        simp only [sgOk, Bool.and_eq_true, decide_eq_true_eq] at h1
        omega
    rw [if_pos hq, if_pos hf]; rfl
  · have hf : freeB x = false := by simp [freeB, hq]
    rw [if_neg hq, hf]; rfl
set_option maxHeartbeats 1000000 in
theorem cleanNever_spec (fr : Bool) (s : St) (slot seq : Int) (nb : Nat) (hok : okSt s) : ASound Try.prog 6 [aSt fr s, .v (.int .i64 slot), .v (.int .i64 seq)] nb (.ret (.v (.bool true)) []) := by
  refine ok_6.sound (by simp) ⟨al_aSt s, trivial, trivial, trivial⟩ ?_
  simp only [ac_6, SS, boxA, cellsOf, foffA, loadA, ldA, idxA, fldA, binA, binVal, isSh, intVal, lenA, slenA, pickA, storeA, setN, getN, fillA, extA, beqA, eqsA, eqL, isnilA, unA, unVal, convA, nilA, sconvA, b2sA, b2sOf, bytesOf, mmA, srcA, appA, sliceA, lohi, mkslA, envA, ↓reduceIte, Nat.reduceEqDiff, Nat.reduceAdd, Nat.reduceMul, reduceCtorEq, Nat.reduceLeDiff, fB, fBools, fBlks, fSegs, aBlk, aSg, aSt, stRow, List.drop_zero, List.take_succ_cons, List.take_zero, List.take_nil, Nat.mul_one, Nat.one_mul, List.cons_append, List.nil_append]
  refine ⟨_, alive16_spec _, ?_⟩
  simp only [SS, boxA, cellsOf, foffA, loadA, ldA, idxA, fldA, binA, binVal, isSh, intVal, lenA, slenA, pickA, storeA, setN, getN, fillA, extA, beqA, eqsA, eqL, isnilA, unA, unVal, convA, nilA, sconvA, b2sA, b2sOf, bytesOf, mmA, srcA, appA, sliceA, lohi, mkslA, envA, ↓reduceIte, Nat.reduceEqDiff, Nat.reduceAdd, Nat.reduceMul, reduceCtorEq, Nat.reduceLeDiff, fB, fBools, fBlks, fSegs, aBlk, aSg, aSt, stRow, List.drop_zero, List.take_succ_cons, List.take_zero, List.take_nil, Nat.mul_one, Nat.one_mul, List.cons_append, List.nil_append]
  refine ⟨_, ofSt_spec fr s _ (ok_sz hok), ?_⟩
  simp only [SS, boxA, cellsOf, foffA, loadA, ldA, idxA, fldA, binA, binVal, isSh, intVal, lenA, slenA, pickA, storeA, setN, getN, fillA, extA, beqA, eqsA, eqL, isnilA, unA, unVal, convA, nilA, sconvA, b2sA, b2sOf, bytesOf, mmA, srcA, appA, sliceA, lohi, mkslA, envA, ↓reduceIte, Nat.reduceEqDiff, Nat.reduceAdd, Nat.reduceMul, reduceCtorEq, Nat.reduceLeDiff, fB, fBools, fBlks, fSegs, aBlk, aSg, aSt, stRow, List.drop_zero, List.take_succ_cons, List.take_zero, List.take_nil, Nat.mul_one, Nat.one_mul, List.cons_append, List.nil_append]
  refine ⟨_, clean_spec s slot seq _ hok, ?_⟩
  simp only [SS, boxA, cellsOf, foffA, loadA, ldA, idxA, fldA, binA, binVal, isSh, intVal, lenA, slenA, pickA, storeA, setN, getN, fillA, extA, beqA, eqsA, eqL, isnilA, unA, unVal, convA, nilA, sconvA, b2sA, b2sOf, bytesOf, mmA, srcA, appA, sliceA, lohi, mkslA, envA, ↓reduceIte, Nat.reduceEqDiff, Nat.reduceAdd, Nat.reduceMul, reduceCtorEq, Nat.reduceLeDiff, fB, fBools, fBlks, fSegs, aBlk, aSg, aSt, stRow, List.drop_zero, List.take_succ_cons, List.take_zero, List.take_nil, Nat.mul_one, Nat.one_mul, List.cons_append, List.nil_append]
  refine ⟨_, rCheck_spec fr s _, ?_⟩
  rw [rchk_eq]
  cases hc : chk s with
  | false =>
    have e1 : liveErr s slot = 9 := by unfold liveErr; rw [hc]; rfl
    rw [cl_bad e1 (by decide)]
    simp only [show errN false = 9 from rfl, Int.reduceEq, not_false_eq_true, SS, boxA, cellsOf, foffA, loadA, ldA, idxA, fldA, binA, binVal, isSh, intVal, lenA, slenA, pickA, storeA, setN, getN, fillA, extA, beqA, eqsA, eqL, isnilA, unA, unVal, convA, nilA, sconvA, b2sA, b2sOf, bytesOf, mmA, srcA, appA, sliceA, lohi, mkslA, envA, ↓reduceIte, Nat.reduceEqDiff, Nat.reduceAdd, Nat.reduceMul, reduceCtorEq, Nat.reduceLeDiff, fB, fBools, fBlks, fSegs, aBlk, aSg, aSt, stRow, List.drop_zero, List.take_succ_cons, List.take_zero, List.take_nil, Nat.mul_one, Nat.one_mul, List.cons_append, List.nil_append]
    refine ⟨_, num16_spec 9 _, ?_⟩
    simp only [SS, boxA, cellsOf, foffA, loadA, ldA, idxA, fldA, binA, binVal, isSh, intVal, lenA, slenA, pickA, storeA, setN, getN, fillA, extA, beqA, eqsA, eqL, isnilA, unA, unVal, convA, nilA, sconvA, b2sA, b2sOf, bytesOf, mmA, srcA, appA, sliceA, lohi, mkslA, envA, ↓reduceIte, Nat.reduceEqDiff, Nat.reduceAdd, Nat.reduceMul, reduceCtorEq, Nat.reduceLeDiff, fB, fBools, fBlks, fSegs, aBlk, aSg, aSt, stRow, List.drop_zero, List.take_succ_cons, List.take_zero, List.take_nil, Nat.mul_one, Nat.one_mul, List.cons_append, List.nil_append]
    exact Ends.data (.inr rfl) (by simp [resL, resOne, tupOf, getN, s_envOf, s_envOf0, s_heapOf, s_heapOf0, s_put1, s_app0, s_app1]) trivial
  | true =>
    have g := (chk_iff s).1 hc
    simp only [show errN true = 0 from rfl, not_true, SS, boxA, cellsOf, foffA, loadA, ldA, idxA, fldA, binA, binVal, isSh, intVal, lenA, slenA, pickA, storeA, setN, getN, fillA, extA, beqA, eqsA, eqL, isnilA, unA, unVal, convA, nilA, sconvA, b2sA, b2sOf, bytesOf, mmA, srcA, appA, sliceA, lohi, mkslA, envA, ↓reduceIte, Nat.reduceEqDiff, Nat.reduceAdd, Nat.reduceMul, reduceCtorEq, Nat.reduceLeDiff, fB, fBools, fBlks, fSegs, aBlk, aSg, aSt, stRow, List.drop_zero, List.take_succ_cons, List.take_zero, List.take_nil, Nat.mul_one, Nat.one_mul, List.cons_append, List.nil_append]
    by_cases h0 : slot < 0
    · rw [cl_bad (liveErr_out hc (.inl h0)) (by decide)]
      simp only [h0, SS, boxA, cellsOf, foffA, loadA, ldA, idxA, fldA, binA, binVal, isSh, intVal, lenA, slenA, pickA, storeA, setN, getN, fillA, extA, beqA, eqsA, eqL, isnilA, unA, unVal, convA, nilA, sconvA, b2sA, b2sOf, bytesOf, mmA, srcA, appA, sliceA, lohi, mkslA, envA, ↓reduceIte, Nat.reduceEqDiff, Nat.reduceAdd, Nat.reduceMul, reduceCtorEq, Nat.reduceLeDiff, fB, fBools, fBlks, fSegs, aBlk, aSg, aSt, stRow, List.drop_zero, List.take_succ_cons, List.take_zero, List.take_nil, Nat.mul_one, Nat.one_mul, List.cons_append, List.nil_append]
      refine ⟨_, num16_spec 71 _, ?_⟩
      simp only [SS, boxA, cellsOf, foffA, loadA, ldA, idxA, fldA, binA, binVal, isSh, intVal, lenA, slenA, pickA, storeA, setN, getN, fillA, extA, beqA, eqsA, eqL, isnilA, unA, unVal, convA, nilA, sconvA, b2sA, b2sOf, bytesOf, mmA, srcA, appA, sliceA, lohi, mkslA, envA, ↓reduceIte, Nat.reduceEqDiff, Nat.reduceAdd, Nat.reduceMul, reduceCtorEq, Nat.reduceLeDiff, fB, fBools, fBlks, fSegs, aBlk, aSg, aSt, stRow, List.drop_zero, List.take_succ_cons, List.take_zero, List.take_nil, Nat.mul_one, Nat.one_mul, List.cons_append, List.nil_append]
      exact Ends.data (.inr rfl) (by simp [resL, resOne, tupOf, getN, s_envOf, s_envOf0, s_heapOf, s_heapOf0, s_put1, s_app0, s_app1]) trivial
    · obtain ⟨k, rfl⟩ : ∃ k : Nat, slot = k := ⟨slot.toNat, by omega⟩
      by_cases hl : (s.segs.length : Int) ≤ (k : Int)
      · rw [cl_bad (liveErr_out hc (.inr hl)) (by decide)]
        simp only [h0, hl, SS, boxA, cellsOf, foffA, loadA, ldA, idxA, fldA, binA, binVal, isSh, intVal, lenA, slenA, pickA, storeA, setN, getN, fillA, extA, beqA, eqsA, eqL, isnilA, unA, unVal, convA, nilA, sconvA, b2sA, b2sOf, bytesOf, mmA, srcA, appA, sliceA, lohi, mkslA, envA, ↓reduceIte, Nat.reduceEqDiff, Nat.reduceAdd, Nat.reduceMul, reduceCtorEq, Nat.reduceLeDiff, fB, fBools, fBlks, fSegs, aBlk, aSg, aSt, stRow, List.drop_zero, List.take_succ_cons, List.take_zero, List.take_nil, Nat.mul_one, Nat.one_mul, List.cons_append, List.nil_append]
        refine ⟨_, num16_spec 71 _, ?_⟩
        simp only [SS, boxA, cellsOf, foffA, loadA, ldA, idxA, fldA, binA, binVal, isSh, intVal, lenA, slenA, pickA, storeA, setN, getN, fillA, extA, beqA, eqsA, eqL, isnilA, unA, unVal, convA, nilA, sconvA, b2sA, b2sOf, bytesOf, mmA, srcA, appA, sliceA, lohi, mkslA, envA, ↓reduceIte, Nat.reduceEqDiff, Nat.reduceAdd, Nat.reduceMul, reduceCtorEq, Nat.reduceLeDiff, fB, fBools, fBlks, fSegs, aBlk, aSg, aSt, stRow, List.drop_zero, List.take_succ_cons, List.take_zero, List.take_nil, Nat.mul_one, Nat.one_mul, List.cons_append, List.nil_append]
        exact Ends.data (.inr rfl) (by simp [resL, resOne, tupOf, getN, s_envOf, s_envOf0, s_heapOf, s_heapOf0, s_put1, s_app0, s_app1]) trivial
      · obtain ⟨x, hx, e1, e0⟩ := lt_at (show k < s.segs.length by omega)
        obtain ⟨g0, g1⟩ := get_Segs (fr := fr) hx
        have hle := liveErr_in hc hx
        by_cases hq : x.seq = 0
        · rw [if_pos hq] at hle
          rw [cl_bad hle (by decide)]
          simp only [h0, hl, e1, e0, g0, hq, SS, boxA, cellsOf, foffA, loadA, ldA, idxA, fldA, binA, binVal, isSh, intVal, lenA, slenA, pickA, storeA, setN, getN, fillA, extA, beqA, eqsA, eqL, isnilA, unA, unVal, convA, nilA, sconvA, b2sA, b2sOf, bytesOf, mmA, srcA, appA, sliceA, lohi, mkslA, envA, ↓reduceIte, Nat.reduceEqDiff, Nat.reduceAdd, Nat.reduceMul, reduceCtorEq, Nat.reduceLeDiff, fB, fBools, fBlks, fSegs, aBlk, aSg, aSt, stRow, List.drop_zero, List.take_succ_cons, List.take_zero, List.take_nil, Nat.mul_one, Nat.one_mul, List.cons_append, List.nil_append]
          refine ⟨_, num16_spec 71 _, ?_⟩
          simp only [SS, boxA, cellsOf, foffA, loadA, ldA, idxA, fldA, binA, binVal, isSh, intVal, lenA, slenA, pickA, storeA, setN, getN, fillA, extA, beqA, eqsA, eqL, isnilA, unA, unVal, convA, nilA, sconvA, b2sA, b2sOf, bytesOf, mmA, srcA, appA, sliceA, lohi, mkslA, envA, ↓reduceIte, Nat.reduceEqDiff, Nat.reduceAdd, Nat.reduceMul, reduceCtorEq, Nat.reduceLeDiff, fB, fBools, fBlks, fSegs, aBlk, aSg, aSt, stRow, List.drop_zero, List.take_succ_cons, List.take_zero, List.take_nil, Nat.mul_one, Nat.one_mul, List.cons_append, List.nil_append]
          exact Ends.data (.inr rfl) (by simp [resL, resOne, tupOf, getN, s_envOf, s_envOf0, s_heapOf, s_heapOf0, s_put1, s_app0, s_app1]) trivial
        · rw [if_neg hq] at hle
          by_cases hs : x.seq = seq
          · have hce := cl_err (seq := seq) hle (by rw [Int.toNat_natCast]; exact hx) hs
            simp only [h0, hl, e1, e0, g0, hq, hs, not_true, SS, boxA, cellsOf, foffA, loadA, ldA, idxA, fldA, binA, binVal, isSh, intVal, lenA, slenA, pickA, storeA, setN, getN, fillA, extA, beqA, eqsA, eqL, isnilA, unA, unVal, convA, nilA, sconvA, b2sA, b2sOf, bytesOf, mmA, srcA, appA, sliceA, lohi, mkslA, envA, ↓reduceIte, Nat.reduceEqDiff, Nat.reduceAdd, Nat.reduceMul, reduceCtorEq, Nat.reduceLeDiff, fB, fBools, fBlks, fSegs, aBlk, aSg, aSt, stRow, List.drop_zero, List.take_succ_cons, List.take_zero, List.take_nil, Nat.mul_one, Nat.one_mul, List.cons_append, List.nil_append]
            generalize cl s k seq = q at hce ⊢
            obtain ⟨q1, q2⟩ := q
            simp only at hce
            have n1 : ¬ q2 = 81 := by omega
            have n2 : ¬ q2 = 71 := by omega
            have hq2 : ¬ seq = 0 := by rw [← hs]; exact hq
            simp only [hq2, SS, boxA, cellsOf, foffA, loadA, ldA, idxA, fldA, binA, binVal, isSh, intVal, lenA, slenA, pickA, storeA, setN, getN, fillA, extA, beqA, eqsA, eqL, isnilA, unA, unVal, convA, nilA, sconvA, b2sA, b2sOf, bytesOf, mmA, srcA, appA, sliceA, lohi, mkslA, envA, ↓reduceIte, Nat.reduceEqDiff, Nat.reduceAdd, Nat.reduceMul, reduceCtorEq, Nat.reduceLeDiff, fB, fBools, fBlks, fSegs, aBlk, aSg, aSt, stRow, List.drop_zero, List.take_succ_cons, List.take_zero, List.take_nil, Nat.mul_one, Nat.one_mul, List.cons_append, List.nil_append]
            refine ⟨_, num16_spec q2 _, ?_⟩
            simp only [n1, decide_false, Bool.not_false, SS, boxA, cellsOf, foffA, loadA, ldA, idxA, fldA, binA, binVal, isSh, intVal, lenA, slenA, pickA, storeA, setN, getN, fillA, extA, beqA, eqsA, eqL, isnilA, unA, unVal, convA, nilA, sconvA, b2sA, b2sOf, bytesOf, mmA, srcA, appA, sliceA, lohi, mkslA, envA, ↓reduceIte, Nat.reduceEqDiff, Nat.reduceAdd, Nat.reduceMul, reduceCtorEq, Nat.reduceLeDiff, fB, fBools, fBlks, fSegs, aBlk, aSg, aSt, stRow, List.drop_zero, List.take_succ_cons, List.take_zero, List.take_nil, Nat.mul_one, Nat.one_mul, List.cons_append, List.nil_append]
            refine ⟨_, num16_spec q2 _, ?_⟩
            simp only [n2, decide_false, Bool.not_false, SS, boxA, cellsOf, foffA, loadA, ldA, idxA, fldA, binA, binVal, isSh, intVal, lenA, slenA, pickA, storeA, setN, getN, fillA, extA, beqA, eqsA, eqL, isnilA, unA, unVal, convA, nilA, sconvA, b2sA, b2sOf, bytesOf, mmA, srcA, appA, sliceA, lohi, mkslA, envA, ↓reduceIte, Nat.reduceEqDiff, Nat.reduceAdd, Nat.reduceMul, reduceCtorEq, Nat.reduceLeDiff, fB, fBools, fBlks, fSegs, aBlk, aSg, aSt, stRow, List.drop_zero, List.take_succ_cons, List.take_zero, List.take_nil, Nat.mul_one, Nat.one_mul, List.cons_append, List.nil_append]
            exact Ends.data (.inr rfl) (by simp [resL, resOne, tupOf, getN, s_envOf, s_envOf0, s_heapOf, s_heapOf0, s_put1, s_app0, s_app1]) trivial
          · have hcl : cl s k seq = (St.zero, 81) := by unfold cl; rw [if_pos hle, Int.toNat_natCast, hx]; simp [hs]
            rw [hcl]
            simp only [h0, hl, e1, e0, g0, hq, hs, not_false_eq_true, SS, boxA, cellsOf, foffA, loadA, ldA, idxA, fldA, binA, binVal, isSh, intVal, lenA, slenA, pickA, storeA, setN, getN, fillA, extA, beqA, eqsA, eqL, isnilA, unA, unVal, convA, nilA, sconvA, b2sA, b2sOf, bytesOf, mmA, srcA, appA, sliceA, lohi, mkslA, envA, ↓reduceIte, Nat.reduceEqDiff, Nat.reduceAdd, Nat.reduceMul, reduceCtorEq, Nat.reduceLeDiff, fB, fBools, fBlks, fSegs, aBlk, aSg, aSt, stRow, List.drop_zero, List.take_succ_cons, List.take_zero, List.take_nil, Nat.mul_one, Nat.one_mul, List.cons_append, List.nil_append]
            refine ⟨_, num16_spec 81 _, ?_⟩
            simp only [St.zero, SS, boxA, cellsOf, foffA, loadA, ldA, idxA, fldA, binA, binVal, isSh, intVal, lenA, slenA, pickA, storeA, setN, getN, fillA, extA, beqA, eqsA, eqL, isnilA, unA, unVal, convA, nilA, sconvA, b2sA, b2sOf, bytesOf, mmA, srcA, appA, sliceA, lohi, mkslA, envA, ↓reduceIte, Nat.reduceEqDiff, Nat.reduceAdd, Nat.reduceMul, reduceCtorEq, Nat.reduceLeDiff, fB, fBools, fBlks, fSegs, aBlk, aSg, aSt, stRow, List.drop_zero, List.take_succ_cons, List.take_zero, List.take_nil, Nat.mul_one, Nat.one_mul, List.cons_append, List.nil_append]
            exact Ends.data (.inr rfl) (by simp [resL, resOne, tupOf, getN, s_envOf, s_envOf0, s_heapOf, s_heapOf0, s_put1, s_app0, s_app1]) trivial
end Go.Proofs.Ytfoeddmbhmfjcaa
/- Functions of the program, compiled. -/
namespace Go.Proofs.Ytfoeddmbhmfjcaa
set_option maxRecDepth 100000
def ac_38 : AC :=
(.seq (.reg false [⟨some 6, .mv (.const (.int .i64 (0))), none, [], []⟩,
    ⟨some 7, .mv (.const (.int .i64 (0))), none, [], []⟩] [0, 1, 2])
(.seq (.seq (.reg false [⟨some 8, .mv (.tmp 0), none, [0], []⟩,
    ⟨some 9, .bin .lss (.tmp 8) (.const (.int .i64 (1))), none, [8], []⟩,
    ⟨some 10, .mv (.tmp 9), none, [9], []⟩,
    ⟨some 11, .mv (.tmp 0), some (10, false), [0, 10], []⟩,
    ⟨some 12, .bin .gtr (.tmp 11) (.const (.int .i64 (1099511627776))), some (10, false), [11, 10], []⟩,
    ⟨some 13, .pick (.tmp 10) (.const (.bool true)) (.tmp 12), none, [10, 12], []⟩,
    ⟨some 14, .mv (.tmp 13), none, [13], []⟩,
    ⟨some 15, .mv (.tmp 1), some (14, false), [1, 14], []⟩,
    ⟨some 16, .bin .lss (.tmp 15) (.const (.int .i64 (0))), some (14, false), [15, 14], []⟩,
    ⟨some 17, .pick (.tmp 14) (.const (.bool true)) (.tmp 16), none, [14, 16], []⟩,
    ⟨some 18, .mv (.tmp 17), none, [17], []⟩,
    ⟨some 19, .mv (.tmp 1), some (18, false), [1, 18], []⟩,
    ⟨some 20, .bin .gtr (.tmp 19) (.const (.int .i64 (8))), some (18, false), [19, 18], []⟩,
    ⟨some 21, .pick (.tmp 18) (.const (.bool true)) (.tmp 20), none, [18, 20], []⟩,
    ⟨some 22, .mv (.tmp 21), none, [21], []⟩,
    ⟨some 23, .mv (.tmp 2), some (22, false), [2, 22], []⟩,
    ⟨some 24, .mv (.tmp 0), some (22, false), [0, 22], []⟩,
    ⟨some 25, .bin .lss (.tmp 23) (.tmp 24), some (22, false), [23, 24, 22], []⟩,
    ⟨some 26, .pick (.tmp 22) (.const (.bool true)) (.tmp 25), none, [22, 25], []⟩,
    ⟨some 27, .mv (.tmp 26), none, [26], []⟩,
    ⟨some 28, .mv (.tmp 2), some (27, false), [2, 27], []⟩,
    ⟨some 29, .bin .gtr (.tmp 28) (.const (.int .i64 (1099511627776))), some (27, false), [28, 27], []⟩,
    ⟨some 30, .pick (.tmp 27) (.const (.bool true)) (.tmp 29), none, [27, 29], []⟩] [0, 1, 2, 30])
(.cond (.tmp 30)
(.seq (.reg false [⟨some 6, .mv (.const (.int .i64 (0))), none, [], []⟩,
    ⟨some 7, .mv (.const (.int .i64 (4))), none, [], []⟩] [6, 7])
.ret)
.skip))
(.seq (.reg false [⟨some 31, .mv (.tmp 1), none, [1], []⟩,
    ⟨some 32, .bin .sub (.const (.int .i64 (8))) (.tmp 31), none, [31], []⟩,
    ⟨some 33, .bin .mul (.const (.int .i64 (64))) (.tmp 32), none, [32], []⟩,
    ⟨some 34, .mv (.tmp 2), none, [2], []⟩,
    ⟨some 35, .mv (.tmp 0), none, [0], []⟩,
    ⟨some 36, .bin .sub (.tmp 34) (.tmp 35), none, [34, 35], []⟩,
    ⟨some 37, .bin .mul (.tmp 33) (.tmp 36), none, [33, 36], []⟩,
    ⟨some 38, .mv (.tmp 1), none, [1], []⟩,
    ⟨some 39, .bin .add (.const (.int .i64 (8))) (.tmp 38), none, [38], []⟩,
    ⟨some 40, .bin .quo (.tmp 37) (.tmp 39), none, [37, 39], []⟩,
    ⟨some 6, .mv (.tmp 40), none, [40], []⟩,
    ⟨some 7, .mv (.const (.int .i64 (0))), none, [], []⟩] [6, 7])
.ret)))
theorem ok_38 : FnOk Try.prog 38 41 ac_38 [.tmp 6, .tmp 7] := ⟨Try.f38, Try.func38, by kernel_rfl, by kernel_rfl, by kernel_rfl, by kernel_rfl, by kernel_rfl⟩
def ac_39 : AC :=
(.seq (.reg false [⟨some 1, .box 36 (.tmp 0), none, [0], []⟩,
    ⟨some 2, .mv (.const (.int .i64 (0))), none, [], []⟩,
    ⟨some 3, .mv (.const (.int .i64 (0))), none, [], []⟩] [1])
(.seq (.seq (.reg false [⟨some 8, .load true 4 (.tmp 1), none, [1], []⟩,
    ⟨some 9, .call 46 [(.tmp 8)], none, [8], []⟩,
    ⟨some 4, .mv (.tmp 9), none, [9], []⟩] [1, 4])
(.seq (.reg false [⟨some 10, .mv (.tmp 4), none, [4], []⟩,
    ⟨some 11, .bin .neq (.tmp 10) (.const (.int .i64 (0))), none, [10], []⟩] [1, 4, 11])
(.cond (.tmp 11)
(.seq (.reg false [⟨some 12, .mv (.tmp 4), none, [4], []⟩,
    ⟨some 2, .mv (.const (.int .i64 (0))), none, [], []⟩,
    ⟨some 3, .mv (.tmp 12), none, [12], []⟩] [2, 3])
.ret)
.skip)))
(.seq (.reg false [⟨some 5, .mv (.const (.int .i64 (0))), none, [], []⟩] [1, 5])
(.seq (.seq (.reg false [⟨some 13, .foff 0 (.tmp 1), none, [1], []⟩,
    ⟨some 14, .load false 1 (.tmp 13), none, [13], []⟩,
    ⟨some 15, .len false (.tmp 14), none, [14], []⟩,
    ⟨some 16, .mv (.const (.int .i64 (0))), none, [], []⟩] [1, 5, 14, 15, 16])
(.block 0 (.loop (.seq (.reg false [⟨some 17, .bin .lss (.tmp 16) (.tmp 15), none, [16, 15], []⟩] [1, 5, 14, 15, 16, 17])
(.seq (.cond (.tmp 17)
.skip
(.exit 0))
(.seq (.block 1 (.seq (.reg false [⟨some 18, .mv (.tmp 16), none, [16], []⟩,
    ⟨some 19, .idx 2 (.tmp 14) (.tmp 16), none, [14, 16], []⟩,
    ⟨some 20, .load true 2 (.tmp 19), none, [19], []⟩,
    ⟨some 7, .new 62 [(.int .i64 (0)), (.slice none 0 0)], none, [], []⟩,
    ⟨some 6, .mv (.tmp 18), none, [18], []⟩,
    ⟨none, .store 2 (.tmp 7) (.tmp 20), none, [7, 20], []⟩] [1, 5, 6, 7, 14, 15, 16])
(.seq (.reg false [⟨some 21, .foff 0 (.tmp 7), none, [7], []⟩,
    ⟨some 22, .load false 1 (.tmp 21), none, [21], []⟩,
    ⟨some 23, .bin .eql (.tmp 22) (.const (.int .i64 (0))), none, [22], []⟩,
    ⟨some 24, .mv (.tmp 23), none, [23], []⟩,
    ⟨some 25, .foff 1 (.tmp 1), some (24, true), [1, 24], []⟩,
    ⟨some 26, .load false 1 (.tmp 25), some (24, true), [25, 24], []⟩,
    ⟨some 27, .mv (.tmp 6), some (24, true), [6, 24], []⟩,
    ⟨some 28, .idx 1 (.tmp 26) (.tmp 27), some (24, true), [26, 27, 24], []⟩,
    ⟨some 29, .load false 1 (.tmp 28), some (24, true), [28, 24], []⟩,
    ⟨some 30, .un .not (.tmp 29), some (24, true), [29, 24], []⟩,
    ⟨some 31, .pick (.tmp 24) (.tmp 30) (.const (.bool false)), none, [24, 30], []⟩] [1, 5, 14, 15, 16, 31])
(.cond (.tmp 31)
(.reg false [⟨some 32, .mv (.tmp 5), none, [5], []⟩,
    ⟨some 33, .bin .add (.tmp 32) (.const (.int .i64 (1))), none, [32], []⟩,
    ⟨some 5, .mv (.tmp 33), none, [33], []⟩] [1, 5, 14, 15, 16])
.skip))))
(.reg false [⟨some 34, .bin .add (.tmp 16) (.const (.int .i64 (1))), none, [16], []⟩,
    ⟨some 16, .mv (.tmp 34), none, [34], []⟩] [1, 5, 14, 15, 16])))))))
(.seq (.reg false [⟨some 35, .mv (.tmp 5), none, [5], []⟩,
    ⟨some 2, .mv (.tmp 35), none, [35], []⟩,
    ⟨some 3, .mv (.const (.int .i64 (0))), none, [], []⟩] [2, 3])
.ret)))))
theorem ok_39 : FnOk Try.prog 39 36 ac_39 [.tmp 2, .tmp 3] := ⟨Try.f39, Try.func39, by kernel_rfl, by kernel_rfl, by kernel_rfl, by kernel_rfl, by kernel_rfl⟩
def ac_40 : AC :=
(.seq (.reg false [⟨some 1, .box 32 (.tmp 0), none, [0], []⟩,
    ⟨some 2, .mv (.const (.int .i64 (0))), none, [], []⟩,
    ⟨some 3, .mv (.const (.int .i64 (0))), none, [], []⟩] [1])
(.seq (.seq (.reg false [⟨some 6, .load true 4 (.tmp 1), none, [1], []⟩,
    ⟨some 7, .call 34 [(.tmp 6)], none, [6], []⟩,
    ⟨some 8, .bin .neq (.tmp 7) (.const (.int .i64 (0))), none, [7], []⟩] [1, 8])
(.cond (.tmp 8)
(.seq (.reg false [⟨some 2, .mv (.const (.int .i64 (0))), none, [], []⟩,
    ⟨some 3, .mv (.const (.int .i64 (9))), none, [], []⟩] [2, 3])
.ret)
.skip))
(.seq (.reg false [⟨some 4, .mv (.const (.int .i64 (0))), none, [], []⟩] [1, 4])
(.seq (.seq (.reg false [⟨some 5, .mv (.const (.int .i64 (0))), none, [], []⟩] [1, 4, 5])
(.block 0 (.loop (.seq (.seq (.reg false [⟨some 9, .mv (.tmp 5), none, [5], []⟩,
    ⟨some 10, .foff 0 (.tmp 1), none, [1], []⟩,
    ⟨some 11, .load false 1 (.tmp 10), none, [10], []⟩,
    ⟨some 12, .len false (.tmp 11), none, [11], []⟩,
    ⟨some 13, .bin .lss (.tmp 9) (.tmp 12), none, [9, 12], []⟩] [1, 4, 5, 13])
(.cond (.tmp 13)
.skip
(.exit 0)))
(.seq (.block 1 (.seq (.reg false [⟨some 16, .foff 0 (.tmp 1), none, [1], []⟩,
    ⟨some 17, .load false 1 (.tmp 16), none, [16], []⟩,
    ⟨some 18, .mv (.tmp 5), none, [5], []⟩,
    ⟨some 19, .idx 2 (.tmp 17) (.tmp 18), none, [17, 18], []⟩,
    ⟨some 20, .foff 0 (.tmp 19), none, [19], []⟩,
    ⟨some 21, .load false 1 (.tmp 20), none, [20], []⟩,
    ⟨some 22, .bin .eql (.tmp 21) (.const (.int .i64 (0))), none, [21], []⟩,
    ⟨some 23, .mv (.tmp 22), none, [22], []⟩,
    ⟨some 24, .foff 1 (.tmp 1), some (23, true), [1, 23], []⟩,
    ⟨some 25, .load false 1 (.tmp 24), some (23, true), [24, 23], []⟩,
    ⟨some 26, .mv (.tmp 5), some (23, true), [5, 23], []⟩,
    ⟨some 27, .idx 1 (.tmp 25) (.tmp 26), some (23, true), [25, 26, 23], []⟩,
    ⟨some 28, .load false 1 (.tmp 27), some (23, true), [27, 23], []⟩,
    ⟨some 29, .un .not (.tmp 28), some (23, true), [28, 23], []⟩,
    ⟨some 30, .pick (.tmp 23) (.tmp 29) (.const (.bool false)), none, [23, 29], []⟩] [1, 4, 5, 30])
(.cond (.tmp 30)
(.reg false [⟨some 31, .mv (.tmp 4), none, [4], []⟩,
    ⟨some 32, .bin .add (.tmp 31) (.const (.int .i64 (1))), none, [31], []⟩,
    ⟨some 4, .mv (.tmp 32), none, [32], []⟩] [1, 4, 5])
.skip)))
(.reg false [⟨some 14, .mv (.tmp 5), none, [5], []⟩,
    ⟨some 15, .bin .add (.tmp 14) (.const (.int .i64 (1))), none, [14], []⟩,
    ⟨some 5, .mv (.tmp 15), none, [15], []⟩] [1, 4, 5]))))))
(.seq (.reg false [⟨some 33, .mv (.tmp 4), none, [4], []⟩,
    ⟨some 2, .mv (.tmp 33), none, [33], []⟩,
    ⟨some 3, .mv (.const (.int .i64 (0))), none, [], []⟩] [2, 3])
.ret)))))
theorem ok_40 : FnOk Try.prog 40 34 ac_40 [.tmp 2, .tmp 3] := ⟨Try.f40, Try.func40, by kernel_rfl, by kernel_rfl, by kernel_rfl, by kernel_rfl, by kernel_rfl⟩
def ac_35 : AC :=
(.seq (.reg false [⟨some 2, .box 32 (.tmp 0), none, [0], []⟩,
    ⟨some 3, .box 71 (.tmp 1), none, [1], []⟩,
    ⟨some 4, .new 32 [(.slice none 0 0), (.slice none 0 0), (.slice none 0 0), (.int .i64 (0))], none, [], []⟩,
    ⟨some 5, .mv (.const (.int .i64 (0))), none, [], []⟩] [2, 3, 4])
(.seq (.reg false [⟨some 17, .load true 4 (.tmp 2), none, [2], []⟩,
    ⟨some 18, .foff 0 (.tmp 3), none, [3], []⟩,
    ⟨some 19, .load false 1 (.tmp 18), none, [18], []⟩,
    ⟨some 20, .call 22 [(.tmp 17), (.tmp 19)], none, [17, 19], []⟩,
    ⟨some 16, .mv (.tmp 20), none, [20], []⟩,
    ⟨some 21, .ext 0 (.tmp 16), none, [16], []⟩,
    ⟨some 22, .ext 1 (.tmp 16), none, [16], []⟩,
    ⟨some 6, .mv (.tmp 21), none, [21], []⟩,
    ⟨some 7, .mv (.tmp 22), none, [22], []⟩] [2, 3, 4, 6, 7])
(.seq (.block 0 (.seq (.reg false [⟨some 24, .mv (.tmp 7), none, [7], []⟩,
    ⟨some 25, .bin .neq (.tmp 24) (.const (.int .i64 (0))), none, [24], []⟩,
    ⟨some 23, .mv (.tmp 25), none, [25], []⟩] [2, 3, 4, 6, 7, 23])
(.cond (.tmp 23)
(.seq (.reg false [⟨some 26, .build [(.slice none 0 0), (.slice none 0 0), (.slice none 0 0), (.int .i64 (0))] [], none, [], []⟩,
    ⟨some 27, .mv (.tmp 7), none, [7], []⟩,
    ⟨none, .store 4 (.tmp 4) (.tmp 26), none, [4, 26], []⟩,
    ⟨some 5, .mv (.tmp 27), none, [27], []⟩] [4, 5])
.ret)
(.seq (.reg true [⟨some 29, .foff 0 (.tmp 2), none, [2], []⟩,
    ⟨some 30, .load false 1 (.tmp 29), none, [29], [0]⟩,
    ⟨some 31, .foff 0 (.tmp 3), none, [3], []⟩,
    ⟨some 32, .load false 1 (.tmp 31), none, [31], [2]⟩,
    ⟨some 33, .idx 2 (.tmp 30) (.tmp 32), none, [30, 32], [1, 3, 0, 2]⟩,
    ⟨some 34, .foff 0 (.tmp 33), none, [33], [4, 1, 3, 0, 2]⟩,
    ⟨some 35, .load false 1 (.tmp 34), none, [34], [5, 4, 1, 3, 0, 2]⟩,
    ⟨some 36, .foff 1 (.tmp 3), none, [3], []⟩,
    ⟨some 37, .load false 1 (.tmp 36), none, [36], [7]⟩,
    ⟨some 38, .bin .neq (.tmp 35) (.tmp 37), none, [35, 37], [6, 8, 5, 4, 1, 3, 0, 2, 7]⟩,
    ⟨some 28, .mv (.tmp 38), none, [38], [9, 6, 8, 5, 4, 1, 3, 0, 2, 7]⟩] [2, 3, 4, 6, 28])
(.cond (.tmp 28)
(.seq (.reg false [⟨some 39, .build [(.slice none 0 0), (.slice none 0 0), (.slice none 0 0), (.int .i64 (0))] [], none, [], []⟩,
    ⟨none, .store 4 (.tmp 4) (.tmp 39), none, [4, 39], []⟩,
    ⟨some 5, .mv (.const (.int .i64 (81))), none, [], []⟩] [4, 5])
.ret)
.skip)))))
(.seq (.reg false [⟨some 40, .load true 4 (.tmp 2), none, [2], []⟩,
    ⟨some 41, .call 55 [(.tmp 40)], none, [40], []⟩,
    ⟨some 8, .new 32 [(.slice none 0 0), (.slice none 0 0), (.slice none 0 0), (.int .i64 (0))], none, [], []⟩,
    ⟨none, .store 4 (.tmp 8) (.tmp 41), none, [8, 41], []⟩] [3, 4, 6, 8])
(.seq (.seq (.reg false [⟨some 9, .mv (.const (.int .i64 (0))), none, [], []⟩] [3, 4, 6, 8, 9])
(.block 1 (.loop (.seq (.seq (.reg false [⟨some 42, .mv (.tmp 9), none, [9], []⟩,
    ⟨some 43, .mv (.tmp 6), none, [6], []⟩,
    ⟨some 44, .len false (.tmp 43), none, [43], []⟩,
    ⟨some 45, .bin .lss (.tmp 42) (.tmp 44), none, [42, 44], []⟩] [3, 4, 6, 8, 9, 45])
(.cond (.tmp 45)
.skip
(.exit 1)))
(.seq (.block 2 (.seq (.seq (.reg false [⟨some 48, .foff 2 (.tmp 8), none, [8], []⟩,
    ⟨some 49, .load false 1 (.tmp 48), none, [48], []⟩,
    ⟨some 50, .len false (.tmp 49), none, [49], []⟩,
    ⟨some 51, .bin .geq (.tmp 50) (.const (.int .i64 (8))), none, [50], []⟩] [3, 4, 6, 8, 9, 51])
(.cond (.tmp 51)
(.seq (.reg false [⟨some 53, .load true 4 (.tmp 8), none, [8], []⟩,
    ⟨some 54, .call 20 [(.tmp 53)], none, [53], []⟩,
    ⟨some 52, .mv (.tmp 54), none, [54], []⟩,
    ⟨some 55, .ext 0 (.tmp 52), none, [52], []⟩,
    ⟨some 56, .ext 1 (.tmp 52), none, [52], []⟩,
    ⟨some 57, .ext 2 (.tmp 52), none, [52], []⟩,
    ⟨some 10, .new 32 [(.slice none 0 0), (.slice none 0 0), (.slice none 0 0), (.int .i64 (0))], none, [], []⟩,
    ⟨none, .store 4 (.tmp 10) (.tmp 55), none, [10, 55], []⟩,
    ⟨some 11, .mv (.tmp 56), none, [56], []⟩,
    ⟨some 12, .mv (.tmp 57), none, [57], []⟩] [3, 4, 6, 8, 9, 10, 12])
(.seq (.seq (.reg false [⟨some 58, .mv (.tmp 12), none, [12], []⟩,
    ⟨some 59, .bin .neq (.tmp 58) (.const (.int .i64 (0))), none, [58], []⟩] [3, 4, 6, 8, 9, 10, 12, 59])
(.cond (.tmp 59)
(.seq (.reg false [⟨some 60, .build [(.slice none 0 0), (.slice none 0 0), (.slice none 0 0), (.int .i64 (0))] [], none, [], []⟩,
    ⟨some 61, .mv (.tmp 12), none, [12], []⟩,
    ⟨none, .store 4 (.tmp 4) (.tmp 60), none, [4, 60], []⟩,
    ⟨some 5, .mv (.tmp 61), none, [61], []⟩] [4, 5])
.ret)
.skip))
(.reg false [⟨some 62, .load true 4 (.tmp 10), none, [10], []⟩,
    ⟨none, .store 4 (.tmp 8) (.tmp 62), none, [8, 62], []⟩] [3, 4, 6, 8, 9])))
.skip))
(.reg true [⟨some 64, .load true 4 (.tmp 8), none, [8], []⟩,
    ⟨some 65, .mv (.tmp 6), none, [6], []⟩,
    ⟨some 66, .mv (.tmp 9), none, [9], []⟩,
    ⟨some 67, .idx 3 (.tmp 65) (.tmp 66), none, [65, 66], [1, 2]⟩,
    ⟨some 68, .load true 3 (.tmp 67), none, [67], [3, 1, 2]⟩,
    ⟨some 69, .call 31 [(.tmp 64), (.tmp 68)], none, [64, 68], [0, 4, 3, 1, 2]⟩,
    ⟨some 63, .mv (.tmp 69), none, [69], [5, 0, 4, 3, 1, 2]⟩,
    ⟨some 70, .ext 0 (.tmp 63), none, [63], [6, 5, 0, 4, 3, 1, 2]⟩,
    ⟨some 71, .ext 1 (.tmp 63), none, [63], [6, 5, 0, 4, 3, 1, 2]⟩,
    ⟨none, .store 4 (.tmp 8) (.tmp 70), none, [8, 70], [7, 5, 0, 1, 2, 3, 4, 6]⟩] [3, 4, 6, 8, 9])))
(.reg false [⟨some 46, .mv (.tmp 9), none, [9], []⟩,
    ⟨some 47, .bin .add (.tmp 46) (.const (.int .i64 (1))), none, [46], []⟩,
    ⟨some 9, .mv (.tmp 47), none, [47], []⟩] [3, 4, 6, 8, 9]))))))
(.weak (.seq (.seq (.reg false [⟨some 72, .mv (.tmp 6), none, [6], []⟩,
    ⟨some 73, .len false (.tmp 72), none, [72], []⟩,
    ⟨some 74, .bin .gtr (.tmp 73) (.const (.int .i64 (0))), none, [73], []⟩] [3, 4, 8, 74])
(.cond (.tmp 74)
(.seq (.reg false [⟨some 76, .load true 4 (.tmp 8), none, [8], []⟩,
    ⟨some 77, .call 20 [(.tmp 76)], none, [76], []⟩,
    ⟨some 75, .mv (.tmp 77), none, [77], []⟩,
    ⟨some 78, .ext 0 (.tmp 75), none, [75], []⟩,
    ⟨some 79, .ext 1 (.tmp 75), none, [75], []⟩,
    ⟨some 80, .ext 2 (.tmp 75), none, [75], []⟩,
    ⟨some 13, .new 32 [(.slice none 0 0), (.slice none 0 0), (.slice none 0 0), (.int .i64 (0))], none, [], []⟩,
    ⟨none, .store 4 (.tmp 13) (.tmp 78), none, [13, 78], []⟩,
    ⟨some 14, .mv (.tmp 79), none, [79], []⟩,
    ⟨some 15, .mv (.tmp 80), none, [80], []⟩] [3, 4, 8, 13, 15])
(.seq (.seq (.reg false [⟨some 81, .mv (.tmp 15), none, [15], []⟩,
    ⟨some 82, .bin .neq (.tmp 81) (.const (.int .i64 (0))), none, [81], []⟩] [3, 4, 8, 13, 15, 82])
(.cond (.tmp 82)
(.seq (.reg false [⟨some 83, .build [(.slice none 0 0), (.slice none 0 0), (.slice none 0 0), (.int .i64 (0))] [], none, [], []⟩,
    ⟨some 84, .mv (.tmp 15), none, [15], []⟩,
    ⟨none, .store 4 (.tmp 4) (.tmp 83), none, [4, 83], []⟩,
    ⟨some 5, .mv (.tmp 84), none, [84], []⟩] [4, 5])
.ret)
.skip))
(.reg false [⟨some 85, .load true 4 (.tmp 13), none, [13], []⟩,
    ⟨none, .store 4 (.tmp 8) (.tmp 85), none, [8, 85], []⟩] [3, 4, 8])))
.skip))
(.seq (.reg false [⟨some 86, .foff 0 (.tmp 8), none, [8], []⟩,
    ⟨some 87, .load false 1 (.tmp 86), none, [86], []⟩,
    ⟨some 88, .foff 0 (.tmp 3), none, [3], []⟩,
    ⟨some 89, .load false 1 (.tmp 88), none, [88], []⟩,
    ⟨some 90, .build [(.int .i64 (0)), (.slice none 0 0)] [], none, [], []⟩,
    ⟨some 91, .idx 2 (.tmp 87) (.tmp 89), none, [87, 89], []⟩,
    ⟨none, .store 2 (.tmp 91) (.tmp 90), none, [91, 90], []⟩] [4, 8])
(.seq (.reg false [⟨some 92, .load true 4 (.tmp 8), none, [8], []⟩,
    ⟨none, .store 4 (.tmp 4) (.tmp 92), none, [4, 92], []⟩,
    ⟨some 5, .mv (.const (.int .i64 (0))), none, [], []⟩] [4, 5])
.ret)))))))))
theorem ok_35 : FnOk Try.prog 35 93 ac_35 [.cell 4 true 4, .tmp 5] := ⟨Try.f35, Try.func35, by kernel_rfl, by kernel_rfl, by kernel_rfl, by kernel_rfl, by kernel_rfl⟩
def ac_37 : AC :=
(.seq (.reg false [⟨some 1, .box 32 (.tmp 0), none, [0], []⟩,
    ⟨some 2, .new 71 [(.int .i64 (0)), (.int .i64 (0))], none, [], []⟩,
    ⟨some 3, .mv (.const (.int .i64 (0))), none, [], []⟩] [1, 2])
(.seq (.seq (.reg false [⟨some 12, .load true 4 (.tmp 1), none, [1], []⟩,
    ⟨some 13, .call 34 [(.tmp 12)], none, [12], []⟩,
    ⟨some 14, .bin .neq (.tmp 13) (.const (.int .i64 (0))), none, [13], []⟩] [1, 2, 14])
(.cond (.tmp 14)
(.seq (.reg false [⟨some 15, .build [(.int .i64 (0)), (.int .i64 (0))] [], none, [], []⟩,
    ⟨none, .store 2 (.tmp 2) (.tmp 15), none, [2, 15], []⟩,
    ⟨some 3, .mv (.const (.int .i64 (9))), none, [], []⟩] [2, 3])
.ret)
.skip))
(.seq (.reg false [⟨some 4, .mv (.const (.int .i64 (0))), none, [], []⟩,
    ⟨some 5, .mv (.const (.int .i64 (0))), none, [], []⟩] [1, 2, 4, 5])
(.seq (.reg false [⟨some 6, .mv (.const (.bool false)), none, [], []⟩] [1, 2, 4, 5, 6])
(.seq (.seq (.reg false [⟨some 7, .mv (.const (.int .i64 (0))), none, [], []⟩] [1, 2, 4, 5, 6, 7])
(.block 0 (.loop (.seq (.seq (.reg false [⟨some 16, .mv (.tmp 7), none, [7], []⟩,
    ⟨some 17, .foff 0 (.tmp 1), none, [1], []⟩,
    ⟨some 18, .load false 1 (.tmp 17), none, [17], []⟩,
    ⟨some 19, .len false (.tmp 18), none, [18], []⟩,
    ⟨some 20, .bin .lss (.tmp 16) (.tmp 19), none, [16, 19], []⟩] [1, 2, 4, 5, 6, 7, 20])
(.cond (.tmp 20)
.skip
(.exit 0)))
(.seq (.block 1 (.seq (.reg false [⟨some 24, .load true 4 (.tmp 1), none, [1], []⟩,
    ⟨some 25, .mv (.tmp 7), none, [7], []⟩,
    ⟨some 26, .call 22 [(.tmp 24), (.tmp 25)], none, [24, 25], []⟩,
    ⟨some 23, .mv (.tmp 26), none, [26], []⟩,
    ⟨some 27, .ext 0 (.tmp 23), none, [23], []⟩,
    ⟨some 28, .ext 1 (.tmp 23), none, [23], []⟩,
    ⟨some 8, .mv (.tmp 27), none, [27], []⟩,
    ⟨some 9, .mv (.tmp 28), none, [28], []⟩] [1, 2, 4, 5, 6, 7, 8, 9])
(.seq (.seq (.reg false [⟨some 29, .mv (.tmp 9), none, [9], []⟩,
    ⟨some 30, .bin .neq (.tmp 29) (.const (.int .i64 (0))), none, [29], []⟩,
    ⟨some 31, .mv (.tmp 30), none, [30], []⟩,
    ⟨some 32, .mv (.tmp 8), some (31, false), [8, 31], []⟩,
    ⟨some 33, .len false (.tmp 32), some (31, false), [32, 31], []⟩,
    ⟨some 34, .bin .geq (.tmp 33) (.const (.int .i64 (8))), some (31, false), [33, 31], []⟩,
    ⟨some 35, .pick (.tmp 31) (.const (.bool true)) (.tmp 34), none, [31, 34], []⟩] [1, 2, 4, 5, 6, 7, 8, 35])
(.cond (.tmp 35)
(.exit 1)
.skip))
(.seq (.reg true [⟨some 37, .foff 0 (.tmp 1), none, [1], []⟩,
    ⟨some 38, .load false 1 (.tmp 37), none, [37], [0]⟩,
    ⟨some 39, .mv (.tmp 7), none, [7], []⟩,
    ⟨some 40, .idx 2 (.tmp 38) (.tmp 39), none, [38, 39], [1, 2, 0]⟩,
    ⟨some 41, .foff 0 (.tmp 40), none, [40], [3, 1, 2, 0]⟩,
    ⟨some 42, .load false 1 (.tmp 41), none, [41], [4, 3, 1, 2, 0]⟩,
    ⟨some 43, .mv (.tmp 8), none, [8], []⟩,
    ⟨some 44, .len false (.tmp 43), none, [43], [6]⟩,
    ⟨some 45, .foff 3 (.tmp 1), none, [1], []⟩,
    ⟨some 46, .load false 1 (.tmp 45), none, [45], [8]⟩,
    ⟨some 47, .call 38 [(.tmp 42), (.tmp 44), (.tmp 46)], none, [42, 44, 46], [5, 7, 9, 4, 3, 1, 2, 0, 6, 8]⟩,
    ⟨some 36, .mv (.tmp 47), none, [47], [10, 5, 7, 9, 4, 3, 1, 2, 0, 6, 8]⟩,
    ⟨some 48, .ext 0 (.tmp 36), none, [36], [11, 10, 5, 7, 9, 4, 3, 1, 2, 0, 6, 8]⟩,
    ⟨some 49, .ext 1 (.tmp 36), none, [36], [11, 10, 5, 7, 9, 4, 3, 1, 2, 0, 6, 8]⟩,
    ⟨some 10, .mv (.tmp 48), none, [48], [12, 10, 0, 1, 2, 3, 4, 5, 6, 7, 8, 9, 11]⟩,
    ⟨some 11, .mv (.tmp 49), none, [49], [13, 14, 0, 1, 2, 3, 4, 5, 6, 7, 8, 9, 10, 11, 12]⟩] [1, 2, 4, 5, 6, 7, 10])
(.seq (.reg false [⟨some 50, .mv (.tmp 6), none, [6], []⟩,
    ⟨some 51, .un .not (.tmp 50), none, [50], []⟩,
    ⟨some 52, .mv (.tmp 51), none, [51], []⟩,
    ⟨some 53, .mv (.tmp 10), some (52, false), [10, 52], []⟩,
    ⟨some 54, .mv (.tmp 4), some (52, false), [4, 52], []⟩,
    ⟨some 55, .bin .gtr (.tmp 53) (.tmp 54), some (52, false), [53, 54, 52], []⟩,
    ⟨some 56, .pick (.tmp 52) (.const (.bool true)) (.tmp 55), none, [52, 55], []⟩] [1, 2, 4, 5, 6, 7, 10, 56])
(.cond (.tmp 56)
(.reg false [⟨some 57, .mv (.tmp 10), none, [10], []⟩,
    ⟨some 58, .mv (.tmp 7), none, [7], []⟩,
    ⟨some 4, .mv (.tmp 57), none, [57], []⟩,
    ⟨some 5, .mv (.tmp 58), none, [58], []⟩,
    ⟨some 6, .mv (.const (.bool true)), none, [], []⟩] [1, 2, 4, 5, 6, 7])
.skip))))))
(.reg false [⟨some 21, .mv (.tmp 7), none, [7], []⟩,
    ⟨some 22, .bin .add (.tmp 21) (.const (.int .i64 (1))), none, [21], []⟩,
    ⟨some 7, .mv (.tmp 22), none, [22], []⟩] [1, 2, 4, 5, 6, 7]))))))
(.seq (.seq (.reg false [⟨some 59, .mv (.tmp 6), none, [6], []⟩,
    ⟨some 60, .un .not (.tmp 59), none, [59], []⟩] [1, 2, 5, 60])
(.cond (.tmp 60)
(.seq (.reg false [⟨some 61, .build [(.int .i64 (0)), (.int .i64 (0))] [], none, [], []⟩,
    ⟨none, .store 2 (.tmp 2) (.tmp 61), none, [2, 61], []⟩,
    ⟨some 3, .mv (.const (.int .i64 (71))), none, [], []⟩] [2, 3])
.ret)
.skip))
(.seq (.reg false [⟨some 62, .mv (.tmp 5), none, [5], []⟩,
    ⟨some 63, .foff 0 (.tmp 1), none, [1], []⟩,
    ⟨some 64, .load false 1 (.tmp 63), none, [63], []⟩,
    ⟨some 65, .mv (.tmp 5), none, [5], []⟩,
    ⟨some 66, .idx 2 (.tmp 64) (.tmp 65), none, [64, 65], []⟩,
    ⟨some 67, .foff 0 (.tmp 66), none, [66], []⟩,
    ⟨some 68, .load false 1 (.tmp 67), none, [67], []⟩,
    ⟨some 69, .build [(.int .i64 (0)), (.int .i64 (0))] [(0, 1, (.tmp 62)), (1, 1, (.tmp 68))], none, [62, 68], []⟩,
    ⟨none, .store 2 (.tmp 2) (.tmp 69), none, [2, 69], []⟩,
    ⟨some 3, .mv (.const (.int .i64 (0))), none, [], []⟩] [2, 3])
.ret)))))))
theorem ok_37 : FnOk Try.prog 37 70 ac_37 [.cell 2 true 2, .tmp 3] := ⟨Try.f37, Try.func37, by kernel_rfl, by kernel_rfl, by kernel_rfl, by kernel_rfl, by kernel_rfl⟩
def ac_68 : AC :=
(.seq (.reg false [⟨some 1, .box 36 (.tmp 0), none, [0], []⟩,
    ⟨some 2, .mv (.const .nilFunc), none, [], []⟩] [1])
(.seq (.reg false [⟨some 3, .clo 81 [(.tmp 1)], none, [1], []⟩,
    ⟨some 2, .mv (.tmp 3), none, [3], []⟩] [2])
.ret))
theorem ok_68 : FnOk Try.prog 68 4 ac_68 [.tmp 2] := ⟨Try.f68, Try.func68, by kernel_rfl, by kernel_rfl, by kernel_rfl, by kernel_rfl, by kernel_rfl⟩
def ac_81 : AC :=
(.seq (.reg false [⟨some 9, .foff 0 (.tmp 1), none, [1], []⟩,
    ⟨some 10, .load false 1 (.tmp 9), none, [9], []⟩,
    ⟨some 11, .len false (.tmp 10), none, [10], []⟩,
    ⟨some 12, .mv (.const (.int .i64 (0))), none, [], []⟩] [0, 1, 10, 11, 12])
(.block 0 (.loop (.seq (.reg false [⟨some 13, .bin .lss (.tmp 12) (.tmp 11), none, [12, 11], []⟩] [0, 1, 10, 11, 12, 13])
(.seq (.cond (.tmp 13)
.skip
(.exit 0))
(.seq (.block 1 (.seq (.reg false [⟨some 14, .mv (.tmp 12), none, [12], []⟩,
    ⟨some 15, .idx 2 (.tmp 10) (.tmp 12), none, [10, 12], []⟩,
    ⟨some 16, .load true 2 (.tmp 15), none, [15], []⟩,
    ⟨some 4, .new 62 [(.int .i64 (0)), (.slice none 0 0)], none, [], []⟩,
    ⟨some 3, .mv (.tmp 14), none, [14], []⟩,
    ⟨none, .store 2 (.tmp 4) (.tmp 16), none, [4, 16], []⟩] [0, 1, 3, 4, 10, 11, 12])
(.seq (.reg false [⟨some 18, .load true 4 (.tmp 1), none, [1], []⟩,
    ⟨some 19, .mv (.tmp 3), none, [3], []⟩,
    ⟨some 20, .call 21 [(.tmp 18), (.tmp 19)], none, [18, 19], []⟩,
    ⟨some 17, .mv (.tmp 20), none, [20], []⟩,
    ⟨some 21, .ext 0 (.tmp 17), none, [17], []⟩,
    ⟨some 22, .ext 1 (.tmp 17), none, [17], []⟩,
    ⟨some 5, .mv (.tmp 21), none, [21], []⟩,
    ⟨some 6, .mv (.tmp 22), none, [22], []⟩] [0, 1, 3, 4, 5, 6, 10, 11, 12])
(.seq (.seq (.reg false [⟨some 23, .mv (.tmp 6), none, [6], []⟩,
    ⟨some 24, .bin .neq (.tmp 23) (.const (.int .i64 (0))), none, [23], []⟩,
    ⟨some 25, .mv (.tmp 24), none, [24], []⟩,
    ⟨some 26, .mv (.tmp 5), some (25, false), [5, 25], []⟩,
    ⟨some 27, .len false (.tmp 26), some (25, false), [26, 25], []⟩,
    ⟨some 28, .bin .eql (.tmp 27) (.const (.int .i64 (8))), some (25, false), [27, 25], []⟩,
    ⟨some 29, .pick (.tmp 25) (.const (.bool true)) (.tmp 28), none, [25, 28], []⟩] [0, 1, 3, 4, 5, 10, 11, 12, 29])
(.cond (.tmp 29)
(.exit 1)
.skip))
(.seq (.reg false [⟨some 31, .foff 0 (.tmp 4), none, [4], []⟩,
    ⟨some 32, .load false 1 (.tmp 31), none, [31], []⟩,
    ⟨some 33, .mv (.tmp 5), none, [5], []⟩,
    ⟨some 34, .len false (.tmp 33), none, [33], []⟩,
    ⟨some 35, .foff 3 (.tmp 1), none, [1], []⟩,
    ⟨some 36, .load false 1 (.tmp 35), none, [35], []⟩,
    ⟨some 37, .call 16 [(.tmp 32), (.tmp 34), (.tmp 36)], none, [32, 34, 36], []⟩,
    ⟨some 30, .mv (.tmp 37), none, [37], []⟩,
    ⟨some 38, .ext 0 (.tmp 30), none, [30], []⟩,
    ⟨some 39, .ext 1 (.tmp 30), none, [30], []⟩,
    ⟨some 7, .mv (.tmp 38), none, [38], []⟩,
    ⟨some 8, .mv (.tmp 39), none, [39], []⟩] [0, 1, 3, 7, 10, 11, 12])
(.seq (.reg false [⟨some 40, .mv (.tmp 0), none, [0], []⟩,
    ⟨some 41, .mv (.tmp 3), none, [3], []⟩,
    ⟨some 42, .mv (.tmp 7), none, [7], []⟩,
    ⟨some 43, .callv (.tmp 40) [(.tmp 41), (.tmp 42)], none, [40, 41, 42], []⟩,
    ⟨some 44, .un .not (.tmp 43), none, [43], []⟩] [0, 1, 10, 11, 12, 44])
(.cond (.tmp 44)
.ret
.skip)))))))
(.reg false [⟨some 45, .bin .add (.tmp 12) (.const (.int .i64 (1))), none, [12], []⟩,
    ⟨some 12, .mv (.tmp 45), none, [45], []⟩] [0, 1, 10, 11, 12])))))))
theorem ok_81 : FnOk Try.prog 81 46 ac_81 [] := ⟨Try.f81, Try.func81, by kernel_rfl, by kernel_rfl, by kernel_rfl, by kernel_rfl, by kernel_rfl⟩
end Go.Proofs.Ytfoeddmbhmfjcaa
/- The page's Score; Room, the program's and the page's. -/
namespace Go.Proofs.Ytfoeddmbhmfjcaa
open Go.RowKit
set_option maxRecDepth 100000
theorem rscore_spec (seq live next : Int) (nb : Nat) : ASound Try.prog 38 [.v (.int .i64 seq), .v (.int .i64 live), .v (.int .i64 next)] nb (.ret (.tup [.v (.int .i64 (scV seq live next)), .v (.int .i64 (scE seq live next))]) []) := by
  refine ok_38.sound (by simp) ⟨trivial, trivial, trivial, trivial⟩ ?_
  simp only [ac_38, SS, boxA, cellsOf, foffA, loadA, ldA, idxA, fldA, binA, binVal, isSh, intVal, lenA, slenA, pickA, storeA, setN, getN, fillA, extA, beqA, eqsA, eqL, isnilA, unA, unVal, convA, nilA, sconvA, b2sA, b2sOf, bytesOf, mmA, srcA, appA, sliceA, lohi, mkslA, envA, ↓reduceIte, Nat.reduceEqDiff, Nat.reduceAdd, Nat.reduceMul, reduceCtorEq, Nat.reduceLeDiff, fB, fBools, fBlks, fSegs, aBlk, aSg, aSt, stRow, List.drop_zero, List.take_succ_cons, List.take_zero, List.take_nil, Nat.mul_one, Nat.one_mul, List.cons_append, List.nil_append]
  by_cases hok : scOk seq live next = true
  · have h := hok
    simp only [scOk, decide_eq_true_eq] at h
    obtain ⟨⟨h1, h2⟩, ⟨h3, h4⟩, h5, h6⟩ := h
    have n1 : ¬ seq < 1 := by omega
    have n2 : ¬ 1099511627776 < seq := by omega
    have n3 : ¬ live < 0 := by omega
    have n4 : ¬ 8 < live := by omega
    have n5 : ¬ next < seq := by omega
    have n6 : ¬ 1099511627776 < next := by omega
    have s1 := sc_size (c := 0) (a := 8 - live) (b := next - seq) (by omega) (by omega) (by omega) (by omega)
    have w1 : IntKind.i64.wrap (8 - live) = 8 - live := wrap64 (by omega)
    have w2 : IntKind.i64.wrap (8 + live) = 8 + live := wrap64 (by omega)
    have w3 : IntKind.i64.wrap (64 * (8 - live)) = 64 * (8 - live) := wrap64 (by omega)
    have w4 : IntKind.i64.wrap (next - seq) = next - seq := wrap64 (by omega)
    have w5 : IntKind.i64.wrap (64 * (8 - live) * (next - seq)) = 64 * (8 - live) * (next - seq) := wrap64 (by omega)
    have e8 : ¬ (8 + live = 0) := by omega
    have d1 : 0 ≤ (64 * (8 - live) * (next - seq)).tdiv (8 + live) := Int.tdiv_nonneg s1.1 (by omega)
    have d2 : (64 * (8 - live) * (next - seq)).tdiv (8 + live) ≤ 64 * (8 - live) * (next - seq) := Int.tdiv_le_self _ s1.1
    have w6 : IntKind.i64.wrap ((64 * (8 - live) * (next - seq)).tdiv (8 + live)) = (64 * (8 - live) * (next - seq)).tdiv (8 + live) := wrap64 (by omega)
    rw [show scV seq live next = _ from if_pos hok, show scE seq live next = _ from if_pos hok]
    simp only [n1, n2, n3, n4, n5, n6, w1, w2, w3, w4, w5, w6, e8, SS, boxA, cellsOf, foffA, loadA, ldA, idxA, fldA, binA, binVal, isSh, intVal, lenA, slenA, pickA, storeA, setN, getN, fillA, extA, beqA, eqsA, eqL, isnilA, unA, unVal, convA, nilA, sconvA, b2sA, b2sOf, bytesOf, mmA, srcA, appA, sliceA, lohi, mkslA, envA, ↓reduceIte, Nat.reduceEqDiff, Nat.reduceAdd, Nat.reduceMul, reduceCtorEq, Nat.reduceLeDiff, fB, fBools, fBlks, fSegs, aBlk, aSg, aSt, stRow, List.drop_zero, List.take_succ_cons, List.take_zero, List.take_nil, Nat.mul_one, Nat.one_mul, List.cons_append, List.nil_append]
    exact Ends.data (.inr rfl) (by simp [w6, resL, resOne, tupOf, getN, s_envOf, s_envOf0, s_heapOf, s_heapOf0, s_put1, s_app0, s_app1]) ⟨trivial, trivial, trivial⟩
  · rw [show scV seq live next = _ from if_neg hok, show scE seq live next = _ from if_neg hok]
    have h : ¬ ((1 ≤ seq ∧ seq ≤ 1099511627776) ∧ (0 ≤ live ∧ live ≤ 8) ∧ (seq ≤ next ∧ next ≤ 1099511627776)) := by simpa [scOk] using hok
    by_cases n1 : seq < 1
    · simp only [n1, SS, boxA, cellsOf, foffA, loadA, ldA, idxA, fldA, binA, binVal, isSh, intVal, lenA, slenA, pickA, storeA, setN, getN, fillA, extA, beqA, eqsA, eqL, isnilA, unA, unVal, convA, nilA, sconvA, b2sA, b2sOf, bytesOf, mmA, srcA, appA, sliceA, lohi, mkslA, envA, ↓reduceIte, Nat.reduceEqDiff, Nat.reduceAdd, Nat.reduceMul, reduceCtorEq, Nat.reduceLeDiff, fB, fBools, fBlks, fSegs, aBlk, aSg, aSt, stRow, List.drop_zero, List.take_succ_cons, List.take_zero, List.take_nil, Nat.mul_one, Nat.one_mul, List.cons_append, List.nil_append]
      exact Ends.data (.inr rfl) (by simp [resL, resOne, tupOf, getN, s_envOf, s_envOf0, s_heapOf, s_heapOf0, s_put1, s_app0, s_app1]) ⟨trivial, trivial, trivial⟩
    · by_cases n2 : 1099511627776 < seq
      · simp only [n1, n2, SS, boxA, cellsOf, foffA, loadA, ldA, idxA, fldA, binA, binVal, isSh, intVal, lenA, slenA, pickA, storeA, setN, getN, fillA, extA, beqA, eqsA, eqL, isnilA, unA, unVal, convA, nilA, sconvA, b2sA, b2sOf, bytesOf, mmA, srcA, appA, sliceA, lohi, mkslA, envA, ↓reduceIte, Nat.reduceEqDiff, Nat.reduceAdd, Nat.reduceMul, reduceCtorEq, Nat.reduceLeDiff, fB, fBools, fBlks, fSegs, aBlk, aSg, aSt, stRow, List.drop_zero, List.take_succ_cons, List.take_zero, List.take_nil, Nat.mul_one, Nat.one_mul, List.cons_append, List.nil_append]
        exact Ends.data (.inr rfl) (by simp [resL, resOne, tupOf, getN, s_envOf, s_envOf0, s_heapOf, s_heapOf0, s_put1, s_app0, s_app1]) ⟨trivial, trivial, trivial⟩
      · by_cases n3 : live < 0
        · simp only [n1, n2, n3, SS, boxA, cellsOf, foffA, loadA, ldA, idxA, fldA, binA, binVal, isSh, intVal, lenA, slenA, pickA, storeA, setN, getN, fillA, extA, beqA, eqsA, eqL, isnilA, unA, unVal, convA, nilA, sconvA, b2sA, b2sOf, bytesOf, mmA, srcA, appA, sliceA, lohi, mkslA, envA, ↓reduceIte, Nat.reduceEqDiff, Nat.reduceAdd, Nat.reduceMul, reduceCtorEq, Nat.reduceLeDiff, fB, fBools, fBlks, fSegs, aBlk, aSg, aSt, stRow, List.drop_zero, List.take_succ_cons, List.take_zero, List.take_nil, Nat.mul_one, Nat.one_mul, List.cons_append, List.nil_append]
          exact Ends.data (.inr rfl) (by simp [resL, resOne, tupOf, getN, s_envOf, s_envOf0, s_heapOf, s_heapOf0, s_put1, s_app0, s_app1]) ⟨trivial, trivial, trivial⟩
        · by_cases n4 : 8 < live
          · simp only [n1, n2, n3, n4, SS, boxA, cellsOf, foffA, loadA, ldA, idxA, fldA, binA, binVal, isSh, intVal, lenA, slenA, pickA, storeA, setN, getN, fillA, extA, beqA, eqsA, eqL, isnilA, unA, unVal, convA, nilA, sconvA, b2sA, b2sOf, bytesOf, mmA, srcA, appA, sliceA, lohi, mkslA, envA, ↓reduceIte, Nat.reduceEqDiff, Nat.reduceAdd, Nat.reduceMul, reduceCtorEq, Nat.reduceLeDiff, fB, fBools, fBlks, fSegs, aBlk, aSg, aSt, stRow, List.drop_zero, List.take_succ_cons, List.take_zero, List.take_nil, Nat.mul_one, Nat.one_mul, List.cons_append, List.nil_append]
            exact Ends.data (.inr rfl) (by simp [resL, resOne, tupOf, getN, s_envOf, s_envOf0, s_heapOf, s_heapOf0, s_put1, s_app0, s_app1]) ⟨trivial, trivial, trivial⟩
          · by_cases n5 : next < seq
            · simp only [n1, n2, n3, n4, n5, SS, boxA, cellsOf, foffA, loadA, ldA, idxA, fldA, binA, binVal, isSh, intVal, lenA, slenA, pickA, storeA, setN, getN, fillA, extA, beqA, eqsA, eqL, isnilA, unA, unVal, convA, nilA, sconvA, b2sA, b2sOf, bytesOf, mmA, srcA, appA, sliceA, lohi, mkslA, envA, ↓reduceIte, Nat.reduceEqDiff, Nat.reduceAdd, Nat.reduceMul, reduceCtorEq, Nat.reduceLeDiff, fB, fBools, fBlks, fSegs, aBlk, aSg, aSt, stRow, List.drop_zero, List.take_succ_cons, List.take_zero, List.take_nil, Nat.mul_one, Nat.one_mul, List.cons_append, List.nil_append]
              exact Ends.data (.inr rfl) (by simp [resL, resOne, tupOf, getN, s_envOf, s_envOf0, s_heapOf, s_heapOf0, s_put1, s_app0, s_app1]) ⟨trivial, trivial, trivial⟩
            · have n6 : 1099511627776 < next := by omega
              simp only [n1, n2, n3, n4, n5, n6, SS, boxA, cellsOf, foffA, loadA, ldA, idxA, fldA, binA, binVal, isSh, intVal, lenA, slenA, pickA, storeA, setN, getN, fillA, extA, beqA, eqsA, eqL, isnilA, unA, unVal, convA, nilA, sconvA, b2sA, b2sOf, bytesOf, mmA, srcA, appA, sliceA, lohi, mkslA, envA, ↓reduceIte, Nat.reduceEqDiff, Nat.reduceAdd, Nat.reduceMul, reduceCtorEq, Nat.reduceLeDiff, fB, fBools, fBlks, fSegs, aBlk, aSg, aSt, stRow, List.drop_zero, List.take_succ_cons, List.take_zero, List.take_nil, Nat.mul_one, Nat.one_mul, List.cons_append, List.nil_append]
              exact Ends.data (.inr rfl) (by simp [resL, resOne, tupOf, getN, s_envOf, s_envOf0, s_heapOf, s_heapOf0, s_put1, s_app0, s_app1]) ⟨trivial, trivial, trivial⟩
/-- how many slots a cleaning may take -/
def roomN (s : St) : Nat → Nat
  | 0 => 0
  | k + 1 => match s.segs[k]?, s.held[k]? with
    | some x, some h => if x.seq = 0 ∧ h = false then roomN s k + 1 else roomN s k
    | _, _ => roomN s k
theorem roomN_le (s : St) : ∀ k, roomN s k ≤ k
  | 0 => Nat.le_refl _
  | k + 1 => by have := roomN_le s k; simp only [roomN]; split <;> (try split) <;> omega
theorem roomN_succ {s : St} {k : Nat} {x : Sg} {h : Bool} (hx : s.segs[k]? = some x) (hh : s.held[k]? = some h) : roomN s (k + 1) = if x.seq = 0 ∧ h = false then roomN s k + 1 else roomN s k := by simp only [roomN, hx, hh]
def roomV (s : St) : Nat := if chk s = true then roomN s s.segs.length else 0
abbrev L_room (fr : Bool) (s : St) (k : Nat) : ASt := ⟨envOf [(1, .op 0 0), (5, .v (.int .i64 (roomN s k : Nat))), (14, fSegs fr s.segs), (15, .v (.int .i64 s.segs.length)), (16, .v (.int .i64 k))], heapOf [(0, stRow 36 fr s)], 1⟩
theorem room_spec (fr : Bool) (s : St) (nb : Nat) (hok : okSt s) : ASound Try.prog 39 [aSt fr s] nb (.ret (.tup [.v (.int .i64 (roomV s : Nat)), .v (.int .i64 (errOf (chk s)))]) []) := by
  refine ok_39.sound (by simp) ⟨al_aSt s, trivial⟩ ?_
  simp only [ac_39, SS, boxA, cellsOf, foffA, loadA, ldA, idxA, fldA, binA, binVal, isSh, intVal, lenA, slenA, pickA, storeA, setN, getN, fillA, extA, beqA, eqsA, eqL, isnilA, unA, unVal, convA, nilA, sconvA, b2sA, b2sOf, bytesOf, mmA, srcA, appA, sliceA, lohi, mkslA, envA, ↓reduceIte, Nat.reduceEqDiff, Nat.reduceAdd, Nat.reduceMul, reduceCtorEq, Nat.reduceLeDiff, fB, fBools, fBlks, fSegs, aBlk, aSg, aSt, stRow, List.drop_zero, List.take_succ_cons, List.take_zero, List.take_nil, Nat.mul_one, Nat.one_mul, List.cons_append, List.nil_append]
  refine ⟨_, logCheck_A fr s _ hok, ?_⟩
  unfold roomV
  cases hc : chk s with
  | false =>
    simp only [show errOf false = 9 from rfl, Int.reduceEq, not_false_eq_true, SS, boxA, cellsOf, foffA, loadA, ldA, idxA, fldA, binA, binVal, isSh, intVal, lenA, slenA, pickA, storeA, setN, getN, fillA, extA, beqA, eqsA, eqL, isnilA, unA, unVal, convA, nilA, sconvA, b2sA, b2sOf, bytesOf, mmA, srcA, appA, sliceA, lohi, mkslA, envA, ↓reduceIte, Nat.reduceEqDiff, Nat.reduceAdd, Nat.reduceMul, reduceCtorEq, Nat.reduceLeDiff, fB, fBools, fBlks, fSegs, aBlk, aSg, aSt, stRow, List.drop_zero, List.take_succ_cons, List.take_zero, List.take_nil, Nat.mul_one, Nat.one_mul, List.cons_append, List.nil_append]
    exact Ends.data (.inr rfl) (by simp [resL, resOne, tupOf, getN, s_envOf, s_envOf0, s_heapOf, s_heapOf0, s_put1, s_app0, s_app1]) ⟨trivial, trivial, trivial⟩
  | true =>
    have g := (chk_iff s).1 hc
    have hh := g.held
    have h64 := g.n64
    simp only [show errOf true = 0 from rfl, not_true, SS, boxA, cellsOf, foffA, loadA, ldA, idxA, fldA, binA, binVal, isSh, intVal, lenA, slenA, pickA, storeA, setN, getN, fillA, extA, beqA, eqsA, eqL, isnilA, unA, unVal, convA, nilA, sconvA, b2sA, b2sOf, bytesOf, mmA, srcA, appA, sliceA, lohi, mkslA, envA, ↓reduceIte, Nat.reduceEqDiff, Nat.reduceAdd, Nat.reduceMul, reduceCtorEq, Nat.reduceLeDiff, fB, fBools, fBlks, fSegs, aBlk, aSg, aSt, stRow, List.drop_zero, List.take_succ_cons, List.take_zero, List.take_nil, Nat.mul_one, Nat.one_mul, List.cons_append, List.nil_append]
    refine AWc.family (L_room fr s) (fun k => k ≤ s.segs.length) (fun k => s.segs.length - k) 0 (Nat.zero_le _) ?_ ?_
    · refine Weak.calc [(0, 0)] (by decide) ?_ ?_ <;> simp [roomN, tk_B, tk_Bools, tk_Blks, tk_Segs, AlL_append, renL_append, okL, okH, rowIs, okV, okHV, rowVt, vtL, okF, okHF, rowFz, fzL, fzV, fzOne, nilLike, oldLike, rn, s_envOf, s_envOf0, s_heapOf, s_heapOf0, s_put, s_put0, s_put1, s_app0, s_app1, Al, AlL, ren, renL, al_B, al_Bools, al_Blks, al_Segs, ren_B, ren_Bools, ren_Blks, ren_Segs, fB, fBools, fBlks, fSegs]
    · intro k hk
      have hr := roomN_le s k
      by_cases hlt : k < s.segs.length
      · obtain ⟨x, hx, e1, e0⟩ := lt_at hlt
        obtain ⟨h, hhx, e2, _⟩ := lt_at (show k < s.held.length by omega)
        obtain ⟨g0, g1⟩ := get_Segs (fr := fr) hx
        have g2 := get_Bools hhx
        have e3 : k * 2 + 2 ≤ s.segs.length * 2 := by omega
        have hs := roomN_succ hx hhx
        by_cases hq : x.seq = 0
        · cases h with
          | true =>
            simp only [L_room, g0, g1, g2, e1, e0, e2, e3, hq, len_Segs, SS, boxA, cellsOf, foffA, loadA, ldA, idxA, fldA, binA, binVal, isSh, intVal, lenA, slenA, pickA, storeA, setN, getN, fillA, extA, beqA, eqsA, eqL, isnilA, unA, unVal, convA, nilA, sconvA, b2sA, b2sOf, bytesOf, mmA, srcA, appA, sliceA, lohi, mkslA, envA, ↓reduceIte, Nat.reduceEqDiff, Nat.reduceAdd, Nat.reduceMul, reduceCtorEq, Nat.reduceLeDiff, fB, fBools, fBlks, fSegs, aBlk, aSg, aSt, stRow, List.drop_zero, List.take_succ_cons, List.take_zero, List.take_nil, Nat.mul_one, Nat.one_mul, List.cons_append, List.nil_append]
            refine famC_next (k + 1) (by omega) (by omega) ?_
            refine Weak.calc [(0, 0)] (by decide) ?_ ?_ <;> simp [hs, hq, tk_B, tk_Bools, tk_Blks, tk_Segs, AlL_append, renL_append, okL, okH, rowIs, okV, okHV, rowVt, vtL, okF, okHF, rowFz, fzL, fzV, fzOne, nilLike, oldLike, rn, s_envOf, s_envOf0, s_heapOf, s_heapOf0, s_put, s_put0, s_put1, s_app0, s_app1, Al, AlL, ren, renL, al_B, al_Bools, al_Blks, al_Segs, ren_B, ren_Bools, ren_Blks, ren_Segs, fB, fBools, fBlks, fSegs, wrap64 (x := (k : Int) + 1) (by omega)]
          | false =>
            simp only [L_room, g0, g1, g2, e1, e0, e2, e3, hq, len_Segs, SS, boxA, cellsOf, foffA, loadA, ldA, idxA, fldA, binA, binVal, isSh, intVal, lenA, slenA, pickA, storeA, setN, getN, fillA, extA, beqA, eqsA, eqL, isnilA, unA, unVal, convA, nilA, sconvA, b2sA, b2sOf, bytesOf, mmA, srcA, appA, sliceA, lohi, mkslA, envA, ↓reduceIte, Nat.reduceEqDiff, Nat.reduceAdd, Nat.reduceMul, reduceCtorEq, Nat.reduceLeDiff, fB, fBools, fBlks, fSegs, aBlk, aSg, aSt, stRow, List.drop_zero, List.take_succ_cons, List.take_zero, List.take_nil, Nat.mul_one, Nat.one_mul, List.cons_append, List.nil_append]
            refine famC_next (k + 1) (by omega) (by omega) ?_
            refine Weak.calc [(0, 0)] (by decide) ?_ ?_ <;> simp [hs, hq, tk_B, tk_Bools, tk_Blks, tk_Segs, AlL_append, renL_append, okL, okH, rowIs, okV, okHV, rowVt, vtL, okF, okHF, rowFz, fzL, fzV, fzOne, nilLike, oldLike, rn, s_envOf, s_envOf0, s_heapOf, s_heapOf0, s_put, s_put0, s_put1, s_app0, s_app1, Al, AlL, ren, renL, al_B, al_Bools, al_Blks, al_Segs, ren_B, ren_Bools, ren_Blks, ren_Segs, fB, fBools, fBlks, fSegs, wrap64 (x := (k : Int) + 1) (by omega), wrap64 (x := (roomN s k : Int) + 1) (by omega)]
        · simp only [L_room, g0, g1, g2, e1, e0, e2, e3, hq, len_Segs, SS, boxA, cellsOf, foffA, loadA, ldA, idxA, fldA, binA, binVal, isSh, intVal, lenA, slenA, pickA, storeA, setN, getN, fillA, extA, beqA, eqsA, eqL, isnilA, unA, unVal, convA, nilA, sconvA, b2sA, b2sOf, bytesOf, mmA, srcA, appA, sliceA, lohi, mkslA, envA, ↓reduceIte, Nat.reduceEqDiff, Nat.reduceAdd, Nat.reduceMul, reduceCtorEq, Nat.reduceLeDiff, fB, fBools, fBlks, fSegs, aBlk, aSg, aSt, stRow, List.drop_zero, List.take_succ_cons, List.take_zero, List.take_nil, Nat.mul_one, Nat.one_mul, List.cons_append, List.nil_append]
          refine famC_next (k + 1) (by omega) (by omega) ?_
          refine Weak.calc [(0, 0)] (by decide) ?_ ?_ <;> simp [hs, hq, tk_B, tk_Bools, tk_Blks, tk_Segs, AlL_append, renL_append, okL, okH, rowIs, okV, okHV, rowVt, vtL, okF, okHF, rowFz, fzL, fzV, fzOne, nilLike, oldLike, rn, s_envOf, s_envOf0, s_heapOf, s_heapOf0, s_put, s_put0, s_put1, s_app0, s_app1, Al, AlL, ren, renL, al_B, al_Bools, al_Blks, al_Segs, ren_B, ren_Bools, ren_Blks, ren_Segs, fB, fBools, fBlks, fSegs, wrap64 (x := (k : Int) + 1) (by omega)]
      · have e1 : ¬ ((k : Int) < (s.segs.length : Int)) := by omega
        obtain rfl : k = s.segs.length := by omega
        simp only [L_room, e1, SS, boxA, cellsOf, foffA, loadA, ldA, idxA, fldA, binA, binVal, isSh, intVal, lenA, slenA, pickA, storeA, setN, getN, fillA, extA, beqA, eqsA, eqL, isnilA, unA, unVal, convA, nilA, sconvA, b2sA, b2sOf, bytesOf, mmA, srcA, appA, sliceA, lohi, mkslA, envA, ↓reduceIte, Nat.reduceEqDiff, Nat.reduceAdd, Nat.reduceMul, reduceCtorEq, Nat.reduceLeDiff, fB, fBools, fBlks, fSegs, aBlk, aSg, aSt, stRow, List.drop_zero, List.take_succ_cons, List.take_zero, List.take_nil, Nat.mul_one, Nat.one_mul, List.cons_append, List.nil_append]
        exact Ends.data (.inr rfl) (by simp [resL, resOne, tupOf, getN, s_envOf, s_envOf0, s_heapOf, s_heapOf0, s_put1, s_app0, s_app1]) ⟨trivial, trivial, trivial⟩
abbrev L_rroom (fr : Bool) (s : St) (k : Nat) : ASt := ⟨envOf [(1, .op 0 0), (4, .v (.int .i64 (roomN s k : Nat))), (5, .v (.int .i64 k))], heapOf [(0, stRow 32 fr s)], 1⟩
theorem rroom_spec (fr : Bool) (s : St) (nb : Nat) : ASound Try.prog 40 [aSt fr s] nb (.ret (.tup [.v (.int .i64 (roomV s : Nat)), .v (.int .i64 (errOf (chk s)))]) []) := by
  refine ok_40.sound (by simp) ⟨al_aSt s, trivial⟩ ?_
  simp only [ac_40, SS, boxA, cellsOf, foffA, loadA, ldA, idxA, fldA, binA, binVal, isSh, intVal, lenA, slenA, pickA, storeA, setN, getN, fillA, extA, beqA, eqsA, eqL, isnilA, unA, unVal, convA, nilA, sconvA, b2sA, b2sOf, bytesOf, mmA, srcA, appA, sliceA, lohi, mkslA, envA, ↓reduceIte, Nat.reduceEqDiff, Nat.reduceAdd, Nat.reduceMul, reduceCtorEq, Nat.reduceLeDiff, fB, fBools, fBlks, fSegs, aBlk, aSg, aSt, stRow, List.drop_zero, List.take_succ_cons, List.take_zero, List.take_nil, Nat.mul_one, Nat.one_mul, List.cons_append, List.nil_append]
  refine ⟨_, rCheck_spec fr s _, ?_⟩
  rw [rchk_eq]
  unfold roomV
  cases hc : chk s with
  | false =>
    simp only [show errN false = 9 from rfl, show errOf false = 9 from rfl, Int.reduceEq, not_false_eq_true, SS, boxA, cellsOf, foffA, loadA, ldA, idxA, fldA, binA, binVal, isSh, intVal, lenA, slenA, pickA, storeA, setN, getN, fillA, extA, beqA, eqsA, eqL, isnilA, unA, unVal, convA, nilA, sconvA, b2sA, b2sOf, bytesOf, mmA, srcA, appA, sliceA, lohi, mkslA, envA, ↓reduceIte, Nat.reduceEqDiff, Nat.reduceAdd, Nat.reduceMul, reduceCtorEq, Nat.reduceLeDiff, fB, fBools, fBlks, fSegs, aBlk, aSg, aSt, stRow, List.drop_zero, List.take_succ_cons, List.take_zero, List.take_nil, Nat.mul_one, Nat.one_mul, List.cons_append, List.nil_append]
    exact Ends.data (.inr rfl) (by simp [resL, resOne, tupOf, getN, s_envOf, s_envOf0, s_heapOf, s_heapOf0, s_put1, s_app0, s_app1]) ⟨trivial, trivial, trivial⟩
  | true =>
    have g := (chk_iff s).1 hc
    have hh := g.held
    have h64 := g.n64
    simp only [show errN true = 0 from rfl, show errOf true = 0 from rfl, not_true, SS, boxA, cellsOf, foffA, loadA, ldA, idxA, fldA, binA, binVal, isSh, intVal, lenA, slenA, pickA, storeA, setN, getN, fillA, extA, beqA, eqsA, eqL, isnilA, unA, unVal, convA, nilA, sconvA, b2sA, b2sOf, bytesOf, mmA, srcA, appA, sliceA, lohi, mkslA, envA, ↓reduceIte, Nat.reduceEqDiff, Nat.reduceAdd, Nat.reduceMul, reduceCtorEq, Nat.reduceLeDiff, fB, fBools, fBlks, fSegs, aBlk, aSg, aSt, stRow, List.drop_zero, List.take_succ_cons, List.take_zero, List.take_nil, Nat.mul_one, Nat.one_mul, List.cons_append, List.nil_append]
    refine AWc.family (L_rroom fr s) (fun k => k ≤ s.segs.length) (fun k => s.segs.length - k) 0 (Nat.zero_le _) ?_ ?_
    · refine Weak.calc [(0, 0)] (by decide) ?_ ?_ <;> simp [roomN, tk_B, tk_Bools, tk_Blks, tk_Segs, AlL_append, renL_append, okL, okH, rowIs, okV, okHV, rowVt, vtL, okF, okHF, rowFz, fzL, fzV, fzOne, nilLike, oldLike, rn, s_envOf, s_envOf0, s_heapOf, s_heapOf0, s_put, s_put0, s_put1, s_app0, s_app1, Al, AlL, ren, renL, al_B, al_Bools, al_Blks, al_Segs, ren_B, ren_Bools, ren_Blks, ren_Segs, fB, fBools, fBlks, fSegs]
    · intro k hk
      have hr := roomN_le s k
      by_cases hlt : k < s.segs.length
      · obtain ⟨x, hx, e1, e0⟩ := lt_at hlt
        obtain ⟨h, hhx, e2, _⟩ := lt_at (show k < s.held.length by omega)
        obtain ⟨g0, g1⟩ := get_Segs (fr := fr) hx
        have g2 := get_Bools hhx
        have hs := roomN_succ hx hhx
        by_cases hq : x.seq = 0
        · cases h with
          | true =>
            simp only [L_rroom, g0, g1, g2, e1, e0, e2, hq, SS, boxA, cellsOf, foffA, loadA, ldA, idxA, fldA, binA, binVal, isSh, intVal, lenA, slenA, pickA, storeA, setN, getN, fillA, extA, beqA, eqsA, eqL, isnilA, unA, unVal, convA, nilA, sconvA, b2sA, b2sOf, bytesOf, mmA, srcA, appA, sliceA, lohi, mkslA, envA, ↓reduceIte, Nat.reduceEqDiff, Nat.reduceAdd, Nat.reduceMul, reduceCtorEq, Nat.reduceLeDiff, fB, fBools, fBlks, fSegs, aBlk, aSg, aSt, stRow, List.drop_zero, List.take_succ_cons, List.take_zero, List.take_nil, Nat.mul_one, Nat.one_mul, List.cons_append, List.nil_append]
            refine famC_next (k + 1) (by omega) (by omega) ?_
            refine Weak.calc [(0, 0)] (by decide) ?_ ?_ <;> simp [hs, hq, tk_B, tk_Bools, tk_Blks, tk_Segs, AlL_append, renL_append, okL, okH, rowIs, okV, okHV, rowVt, vtL, okF, okHF, rowFz, fzL, fzV, fzOne, nilLike, oldLike, rn, s_envOf, s_envOf0, s_heapOf, s_heapOf0, s_put, s_put0, s_put1, s_app0, s_app1, Al, AlL, ren, renL, al_B, al_Bools, al_Blks, al_Segs, ren_B, ren_Bools, ren_Blks, ren_Segs, fB, fBools, fBlks, fSegs, wrap64 (x := (k : Int) + 1) (by omega)]
          | false =>
            simp only [L_rroom, g0, g1, g2, e1, e0, e2, hq, SS, boxA, cellsOf, foffA, loadA, ldA, idxA, fldA, binA, binVal, isSh, intVal, lenA, slenA, pickA, storeA, setN, getN, fillA, extA, beqA, eqsA, eqL, isnilA, unA, unVal, convA, nilA, sconvA, b2sA, b2sOf, bytesOf, mmA, srcA, appA, sliceA, lohi, mkslA, envA, ↓reduceIte, Nat.reduceEqDiff, Nat.reduceAdd, Nat.reduceMul, reduceCtorEq, Nat.reduceLeDiff, fB, fBools, fBlks, fSegs, aBlk, aSg, aSt, stRow, List.drop_zero, List.take_succ_cons, List.take_zero, List.take_nil, Nat.mul_one, Nat.one_mul, List.cons_append, List.nil_append]
            refine famC_next (k + 1) (by omega) (by omega) ?_
            refine Weak.calc [(0, 0)] (by decide) ?_ ?_ <;> simp [hs, hq, tk_B, tk_Bools, tk_Blks, tk_Segs, AlL_append, renL_append, okL, okH, rowIs, okV, okHV, rowVt, vtL, okF, okHF, rowFz, fzL, fzV, fzOne, nilLike, oldLike, rn, s_envOf, s_envOf0, s_heapOf, s_heapOf0, s_put, s_put0, s_put1, s_app0, s_app1, Al, AlL, ren, renL, al_B, al_Bools, al_Blks, al_Segs, ren_B, ren_Bools, ren_Blks, ren_Segs, fB, fBools, fBlks, fSegs, wrap64 (x := (k : Int) + 1) (by omega), wrap64 (x := (roomN s k : Int) + 1) (by omega)]
        · simp only [L_rroom, g0, g1, g2, e1, e0, e2, hq, SS, boxA, cellsOf, foffA, loadA, ldA, idxA, fldA, binA, binVal, isSh, intVal, lenA, slenA, pickA, storeA, setN, getN, fillA, extA, beqA, eqsA, eqL, isnilA, unA, unVal, convA, nilA, sconvA, b2sA, b2sOf, bytesOf, mmA, srcA, appA, sliceA, lohi, mkslA, envA, ↓reduceIte, Nat.reduceEqDiff, Nat.reduceAdd, Nat.reduceMul, reduceCtorEq, Nat.reduceLeDiff, fB, fBools, fBlks, fSegs, aBlk, aSg, aSt, stRow, List.drop_zero, List.take_succ_cons, List.take_zero, List.take_nil, Nat.mul_one, Nat.one_mul, List.cons_append, List.nil_append]
          refine famC_next (k + 1) (by omega) (by omega) ?_
          refine Weak.calc [(0, 0)] (by decide) ?_ ?_ <;> simp [hs, hq, tk_B, tk_Bools, tk_Blks, tk_Segs, AlL_append, renL_append, okL, okH, rowIs, okV, okHV, rowVt, vtL, okF, okHF, rowFz, fzL, fzV, fzOne, nilLike, oldLike, rn, s_envOf, s_envOf0, s_heapOf, s_heapOf0, s_put, s_put0, s_put1, s_app0, s_app1, Al, AlL, ren, renL, al_B, al_Bools, al_Blks, al_Segs, ren_B, ren_Bools, ren_Blks, ren_Segs, fB, fBools, fBlks, fSegs, wrap64 (x := (k : Int) + 1) (by omega)]
      · have e1 : ¬ ((k : Int) < (s.segs.length : Int)) := by omega
        obtain rfl : k = s.segs.length := by omega
        simp only [L_rroom, e1, SS, boxA, cellsOf, foffA, loadA, ldA, idxA, fldA, binA, binVal, isSh, intVal, lenA, slenA, pickA, storeA, setN, getN, fillA, extA, beqA, eqsA, eqL, isnilA, unA, unVal, convA, nilA, sconvA, b2sA, b2sOf, bytesOf, mmA, srcA, appA, sliceA, lohi, mkslA, envA, ↓reduceIte, Nat.reduceEqDiff, Nat.reduceAdd, Nat.reduceMul, reduceCtorEq, Nat.reduceLeDiff, fB, fBools, fBlks, fSegs, aBlk, aSg, aSt, stRow, List.drop_zero, List.take_succ_cons, List.take_zero, List.take_nil, Nat.mul_one, Nat.one_mul, List.cons_append, List.nil_append]
        exact Ends.data (.inr rfl) (by simp [resL, resOne, tupOf, getN, s_envOf, s_envOf0, s_heapOf, s_heapOf0, s_put1, s_app0, s_app1]) ⟨trivial, trivial, trivial⟩
end Go.Proofs.Ytfoeddmbhmfjcaa
/- The page's Seal: the segments stay the caller's to write. -/
namespace Go.Proofs.Ytfoeddmbhmfjcaa
open Go.RowKit
set_option maxRecDepth 100000
set_option maxHeartbeats 1000000 in
theorem rSeal_os (fr : Bool) (s : St) (nb : Nat) (hz : rslE s = 0) : ASound Try.prog 20 [aSt fr s] nb (.ret (.tup [.agg [.os nb 0 s.segs.length 2, fBools true s.held, .v (.slice none 0 0), .v (.int .i64 (s.next + 1))], .v (.int .i64 (rslAt s : Nat)), .v (.int .i64 0)]) [(nb, some (.row true 69 (eSegs true (rslSt s).segs)))]) := by
  refine ok_20.sound (by simp) ⟨al_aSt s, trivial⟩ ?_
  simp only [ac_20, SS, boxA, cellsOf, foffA, loadA, ldA, idxA, fldA, binA, binVal, isSh, intVal, lenA, slenA, pickA, storeA, setN, getN, fillA, extA, beqA, eqsA, eqL, isnilA, unA, unVal, convA, nilA, sconvA, b2sA, b2sOf, bytesOf, mmA, srcA, appA, sliceA, lohi, mkslA, envA, ↓reduceIte, Nat.reduceEqDiff, Nat.reduceAdd, Nat.reduceMul, reduceCtorEq, Nat.reduceLeDiff, fB, fBools, fBlks, fSegs, aBlk, aSg, aSt, stRow, List.drop_zero, List.take_succ_cons, List.take_zero, List.take_nil, Nat.mul_one, Nat.one_mul, List.cons_append, List.nil_append]
  refine ⟨_, rCheck_spec fr s _, ?_⟩
  simp only [SS, boxA, cellsOf, foffA, loadA, ldA, idxA, fldA, binA, binVal, isSh, intVal, lenA, slenA, pickA, storeA, setN, getN, fillA, extA, beqA, eqsA, eqL, isnilA, unA, unVal, convA, nilA, sconvA, b2sA, b2sOf, bytesOf, mmA, srcA, appA, sliceA, lohi, mkslA, envA, ↓reduceIte, Nat.reduceEqDiff, Nat.reduceAdd, Nat.reduceMul, reduceCtorEq, Nat.reduceLeDiff, fB, fBools, fBlks, fSegs, aBlk, aSg, aSt, stRow, List.drop_zero, List.take_succ_cons, List.take_zero, List.take_nil, Nat.mul_one, Nat.one_mul, List.cons_append, List.nil_append]
  cases hc : rchk s with
  | false =>
    simp only [errN_f, SS, boxA, cellsOf, foffA, loadA, ldA, idxA, fldA, binA, binVal, isSh, intVal, lenA, slenA, pickA, storeA, setN, getN, fillA, extA, beqA, eqsA, eqL, isnilA, unA, unVal, convA, nilA, sconvA, b2sA, b2sOf, bytesOf, mmA, srcA, appA, sliceA, lohi, mkslA, envA, ↓reduceIte, Nat.reduceEqDiff, Nat.reduceAdd, Nat.reduceMul, reduceCtorEq, Nat.reduceLeDiff, fB, fBools, fBlks, fSegs, aBlk, aSg, aSt, stRow, List.drop_zero, List.take_succ_cons, List.take_zero, List.take_nil, Nat.mul_one, Nat.one_mul, List.cons_append, List.nil_append]
    have e : rslE s = 9 := by simp [rslE, hc]
    exact absurd (hz.symm.trans e) (by decide)
  | true =>
    have rb := rchk_RB hc
    simp only [errN_t, SS, boxA, cellsOf, foffA, loadA, ldA, idxA, fldA, binA, binVal, isSh, intVal, lenA, slenA, pickA, storeA, setN, getN, fillA, extA, beqA, eqsA, eqL, isnilA, unA, unVal, convA, nilA, sconvA, b2sA, b2sOf, bytesOf, mmA, srcA, appA, sliceA, lohi, mkslA, envA, ↓reduceIte, Nat.reduceEqDiff, Nat.reduceAdd, Nat.reduceMul, reduceCtorEq, Nat.reduceLeDiff, fB, fBools, fBlks, fSegs, aBlk, aSg, aSt, stRow, List.drop_zero, List.take_succ_cons, List.take_zero, List.take_nil, Nat.mul_one, Nat.one_mul, List.cons_append, List.nil_append]
    by_cases ho : s.opn.length = 0
    · have ho' : (s.opn.length : Int) = 0 := by omega
      simp only [ho', SS, boxA, cellsOf, foffA, loadA, ldA, idxA, fldA, binA, binVal, isSh, intVal, lenA, slenA, pickA, storeA, setN, getN, fillA, extA, beqA, eqsA, eqL, isnilA, unA, unVal, convA, nilA, sconvA, b2sA, b2sOf, bytesOf, mmA, srcA, appA, sliceA, lohi, mkslA, envA, ↓reduceIte, Nat.reduceEqDiff, Nat.reduceAdd, Nat.reduceMul, reduceCtorEq, Nat.reduceLeDiff, fB, fBools, fBlks, fSegs, aBlk, aSg, aSt, stRow, List.drop_zero, List.take_succ_cons, List.take_zero, List.take_nil, Nat.mul_one, Nat.one_mul, List.cons_append, List.nil_append]
      have e : rslE s = 71 := by simp [rslE, hc, ho]
      exact absurd (hz.symm.trans e) (by decide)
    · have ho' : ¬ (s.opn.length : Int) = 0 := by omega
      by_cases hn : 1099511627776 ≤ s.next
      · simp only [ho', hn, SS, boxA, cellsOf, foffA, loadA, ldA, idxA, fldA, binA, binVal, isSh, intVal, lenA, slenA, pickA, storeA, setN, getN, fillA, extA, beqA, eqsA, eqL, isnilA, unA, unVal, convA, nilA, sconvA, b2sA, b2sOf, bytesOf, mmA, srcA, appA, sliceA, lohi, mkslA, envA, ↓reduceIte, Nat.reduceEqDiff, Nat.reduceAdd, Nat.reduceMul, reduceCtorEq, Nat.reduceLeDiff, fB, fBools, fBlks, fSegs, aBlk, aSg, aSt, stRow, List.drop_zero, List.take_succ_cons, List.take_zero, List.take_nil, Nat.mul_one, Nat.one_mul, List.cons_append, List.nil_append]
        have e : rslE s = 51 := by simp [rslE, hc, hn]; intro h9; simp [h9] at ho
        exact absurd (hz.symm.trans e) (by decide)
      · simp only [ho', hn, SS, boxA, cellsOf, foffA, loadA, ldA, idxA, fldA, binA, binVal, isSh, intVal, lenA, slenA, pickA, storeA, setN, getN, fillA, extA, beqA, eqsA, eqL, isnilA, unA, unVal, convA, nilA, sconvA, b2sA, b2sOf, bytesOf, mmA, srcA, appA, sliceA, lohi, mkslA, envA, ↓reduceIte, Nat.reduceEqDiff, Nat.reduceAdd, Nat.reduceMul, reduceCtorEq, Nat.reduceLeDiff, fB, fBools, fBlks, fSegs, aBlk, aSg, aSt, stRow, List.drop_zero, List.take_succ_cons, List.take_zero, List.take_nil, Nat.mul_one, Nat.one_mul, List.cons_append, List.nil_append]
        have heq : s.held.length = s.segs.length := by simp only [rchk, rHead, Bool.and_eq_true, decide_eq_true_eq] at hc; omega
        have ho2 : s.opn ≠ [] := fun h9 => ho (by rw [h9]; rfl)
        refine AWc.family (L_seal fr s) (fun k => k ≤ s.segs.length ∧ ∀ (j : Nat) x h, j < k → s.segs[j]? = some x → s.held[j]? = some h → (freeB' x && !h) = false) (fun k => s.segs.length - k) 0 ⟨Nat.zero_le _, fun j x h h9 => absurd h9 (Nat.not_lt_zero _)⟩ ?_ ?_
        · refine Weak.calc [(0, 0), (64, 1)] (by decide) ?_ ?_ <;> simp [tk_B, tk_Bools, tk_Blks, tk_Segs, AlL_append, renL_append, okL, okH, rowIs, okV, okHV, rowVt, vtL, okF, okHF, rowFz, fzL, fzV, fzOne, nilLike, oldLike, rn, s_envOf, s_envOf0, s_heapOf, s_heapOf0, s_put, s_put0, s_put1, s_app0, s_app1, Al, AlL, ren, renL, al_B, al_Bools, al_Blks, al_Segs, ren_B, ren_Bools, ren_Blks, ren_Segs, fB, fBools, fBlks, fSegs]
        · rintro k ⟨hk, hno⟩
          by_cases hlt : k < s.segs.length
          · obtain ⟨x, hx, e1, e0⟩ := lt_at hlt
            obtain ⟨h, hh, e2, _⟩ := lt_at (show k < s.held.length by omega)
            obtain ⟨g0, g1⟩ := get_Segs (fr := fr) hx
            have g2 := get_Bools hh
            simp only [L_seal, g0, g1, e1, e0, SS, boxA, cellsOf, foffA, loadA, ldA, idxA, fldA, binA, binVal, isSh, intVal, lenA, slenA, pickA, storeA, setN, getN, fillA, extA, beqA, eqsA, eqL, isnilA, unA, unVal, convA, nilA, sconvA, b2sA, b2sOf, bytesOf, mmA, srcA, appA, sliceA, lohi, mkslA, envA, ↓reduceIte, Nat.reduceEqDiff, Nat.reduceAdd, Nat.reduceMul, reduceCtorEq, Nat.reduceLeDiff, fB, fBools, fBlks, fSegs, aBlk, aSg, aSt, stRow, List.drop_zero, List.take_succ_cons, List.take_zero, List.take_nil, Nat.mul_one, Nat.one_mul, List.cons_append, List.nil_append]
            refine ⟨_, rfree_spec fr x _, ?_⟩
            simp only [g2, e2, e1, e0, SS, boxA, cellsOf, foffA, loadA, ldA, idxA, fldA, binA, binVal, isSh, intVal, lenA, slenA, pickA, storeA, setN, getN, fillA, extA, beqA, eqsA, eqL, isnilA, unA, unVal, convA, nilA, sconvA, b2sA, b2sOf, bytesOf, mmA, srcA, appA, sliceA, lohi, mkslA, envA, ↓reduceIte, Nat.reduceEqDiff, Nat.reduceAdd, Nat.reduceMul, reduceCtorEq, Nat.reduceLeDiff, fB, fBools, fBlks, fSegs, aBlk, aSg, aSt, stRow, List.drop_zero, List.take_succ_cons, List.take_zero, List.take_nil, Nat.mul_one, Nat.one_mul, List.cons_append, List.nil_append]
            have next : (freeB' x && !h) = false → ∀ j x' h', j < k + 1 → s.segs[j]? = some x' → s.held[j]? = some h' → (freeB' x' && !h') = false := by
              intro h9 j x' h' hj hx' hh'
              by_cases e : j = k
              · subst e; rw [hx] at hx'; rw [hh] at hh'; cases hx'; cases hh'; exact h9
              · exact hno j x' h' (by omega) hx' hh'
            have e3 : k * 2 + 2 ≤ s.segs.length * 2 := by omega
            have h64 : k ≤ 64 := by have := rb.n64; omega
            split
            · rename_i hf
              split
              · rename_i hh0
                have hat : rAt s = some k := by
                  unfold rAt
                  rw [List.find?_range_eq_some]
                  refine ⟨by rw [hx, hh]; simp [hf, hh0], List.mem_range.2 hlt, fun j hj => ?_⟩
                  rw [List.getElem?_eq_getElem (show j < s.segs.length by omega), List.getElem?_eq_getElem (show j < s.held.length by omega)]
                  simp only [hno j _ _ hj (List.getElem?_eq_getElem (show j < s.segs.length by omega)) (List.getElem?_eq_getElem (show j < s.held.length by omega))]
                  simp
                have e : rslE s = 0 := by simp [rslE, hc, hn, hat]; exact ho2
                have ea : rslAt s = k := by simp [rslAt, e, hat]
                have hwr : IntKind.i64.wrap (s.next + 1) = s.next + 1 := wrap64 (by simp only [rchk, rHead, Bool.and_eq_true, decide_eq_true_eq] at hc; omega)
                refine ⟨_, rOwn_os fr s _ rb, ?_⟩
                simp only [e1, e0, e3, len_Segs, hwr, SS, boxA, cellsOf, foffA, loadA, ldA, idxA, fldA, binA, binVal, isSh, intVal, lenA, slenA, pickA, storeA, setN, getN, fillA, extA, beqA, eqsA, eqL, isnilA, unA, unVal, convA, nilA, sconvA, b2sA, b2sOf, bytesOf, mmA, srcA, appA, sliceA, lohi, mkslA, envA, ↓reduceIte, Nat.reduceEqDiff, Nat.reduceAdd, Nat.reduceMul, reduceCtorEq, Nat.reduceLeDiff, fB, fBools, fBlks, fSegs, aBlk, aSg, aSt, stRow, List.drop_zero, List.take_succ_cons, List.take_zero, List.take_nil, Nat.mul_one, Nat.one_mul, List.cons_append, List.nil_append]
                rw [rslSt, e, if_pos rfl, ea]
                refine Ends.weak (Weak.freezeC 1283 rfl (l := [(2, .op 1 0), (3, .v (.int .i64 k)), (4, .v (.int .i64 0))])
                  (h := [(1, .row true 32 [.os 1282 0 s.segs.length 2, fBools true s.held, .v (.slice none 0 0), .v (.int .i64 (s.next + 1))]), (1282, .row true 69 (((eSegs true s.segs).set (k * 2) (.v (.int .i64 s.next))).set (k * 2 + 1) (fBlks true s.opn)))]) ?_ ?_) ?_
                · simp [tk_B, tk_Bools, tk_Blks, tk_Segs, AlL_append, renL_append, okL, okH, rowIs, okV, okHV, rowVt, vtL, okF, okHF, rowFz, fzL, fzV, fzOne, nilLike, oldLike, rn, s_envOf, s_envOf0, s_heapOf, s_heapOf0, s_put, s_put0, s_put1, s_app0, s_app1, Al, AlL, ren, renL, al_B, al_Bools, al_Blks, al_Segs, ren_B, ren_Bools, ren_Blks, ren_Segs, fB, fBools, fBlks, fSegs]
                · simp only [okHF, rowFz, s_put1, s_heapOf, Nat.reduceEqDiff, ↓reduceIte]
                  exact ⟨⟨by decide, ⟨trivial, trivial⟩, .inl rfl⟩, ⟨by decide, ⟨trivial, trivial⟩, .inr (.inr ⟨k * 2 + 1, s.opn.length, 3, by rw [List.getElem?_set_self (by simp [len_Segs]; omega)], by rw [tk_Blks, List.set_set]; rfl⟩)⟩, trivial⟩
                · rw [set_Segs (fr := true) hlt ⟨s.next, s.opn⟩]
                  exact Ends.rows1 (i := 1282) (.inr rfl) (by simp [resL, resOne, tupOf, getN, s_envOf, s_envOf0, s_heapOf, s_heapOf0, s_put1, s_app0, s_app1]; rfl) rfl (al_Segs _) (by simp [Al, AlL, fBools, al_Bools]) (by simp [ren, renL, rn, fBools, ren_Bools])
              · rename_i hh0
                refine famC_next (k + 1) (by omega) ⟨by omega, next (by simp [hf]; simpa using hh0)⟩ ?_
                refine Weak.calc [(0, 0), (1, 1)] (by decide) ?_ ?_ <;> simp [tk_B, tk_Bools, tk_Blks, tk_Segs, AlL_append, renL_append, okL, okH, rowIs, okV, okHV, rowVt, vtL, okF, okHF, rowFz, fzL, fzV, fzOne, nilLike, oldLike, rn, s_envOf, s_envOf0, s_heapOf, s_heapOf0, s_put, s_put0, s_put1, s_app0, s_app1, Al, AlL, ren, renL, al_B, al_Bools, al_Blks, al_Segs, ren_B, ren_Bools, ren_Blks, ren_Segs, fB, fBools, fBlks, fSegs, wrap64 (x := (k : Int) + 1) (by omega)]
            · rename_i hf
              refine famC_next (k + 1) (by omega) ⟨by omega, next (by simp [show freeB' x = false by simpa using hf])⟩ ?_
              refine Weak.calc [(0, 0), (1, 1)] (by decide) ?_ ?_ <;> simp [tk_B, tk_Bools, tk_Blks, tk_Segs, AlL_append, renL_append, okL, okH, rowIs, okV, okHV, rowVt, vtL, okF, okHF, rowFz, fzL, fzV, fzOne, nilLike, oldLike, rn, s_envOf, s_envOf0, s_heapOf, s_heapOf0, s_put, s_put0, s_put1, s_app0, s_app1, Al, AlL, ren, renL, al_B, al_Bools, al_Blks, al_Segs, ren_B, ren_Bools, ren_Blks, ren_Segs, fB, fBools, fBlks, fSegs, wrap64 (x := (k : Int) + 1) (by omega)]
          · have e1 : ¬ ((k : Int) < (s.segs.length : Int)) := by omega
            simp only [L_seal, e1, SS, boxA, cellsOf, foffA, loadA, ldA, idxA, fldA, binA, binVal, isSh, intVal, lenA, slenA, pickA, storeA, setN, getN, fillA, extA, beqA, eqsA, eqL, isnilA, unA, unVal, convA, nilA, sconvA, b2sA, b2sOf, bytesOf, mmA, srcA, appA, sliceA, lohi, mkslA, envA, ↓reduceIte, Nat.reduceEqDiff, Nat.reduceAdd, Nat.reduceMul, reduceCtorEq, Nat.reduceLeDiff, fB, fBools, fBlks, fSegs, aBlk, aSg, aSt, stRow, List.drop_zero, List.take_succ_cons, List.take_zero, List.take_nil, Nat.mul_one, Nat.one_mul, List.cons_append, List.nil_append]
            have e : rslE s = 51 := by
              have : rAt s = none := by
                unfold rAt
                rw [List.find?_eq_none]
                intro j hj
                have hjl := List.mem_range.1 hj
                rw [List.getElem?_eq_getElem hjl, List.getElem?_eq_getElem (show j < s.held.length by omega)]
                simp only [hno j _ _ (by omega) (List.getElem?_eq_getElem hjl) (List.getElem?_eq_getElem (show j < s.held.length by omega))]
                simp
              simp [rslE, hc, hn, this]; intro h9; exact absurd h9 ho2
            exact absurd (hz.symm.trans e) (by decide)
end Go.Proofs.Ytfoeddmbhmfjcaa
/- The page's Clean. -/
namespace Go.Proofs.Ytfoeddmbhmfjcaa
open Go.RowKit
set_option maxRecDepth 100000
/-- what the page's cleaning makes of a log -/
def rcl (s : St) (slot seq : Int) : St × Int :=
  if liveErr s slot = 0 then (match s.segs[slot.toNat]? with
    | some x => if x.seq = seq then (if (clPut (liveL s slot) s).2 = 0 then (freeSt (clPut (liveL s slot) s).1 slot.toNat, 0) else (St.zero, (clPut (liveL s slot) s).2)) else (St.zero, 81)
    | none => (St.zero, 81)) else (St.zero, liveErr s slot)
abbrev L_rclean (l : List Blk) (slot seq : Int) (k : Nat × St) : ASt := ⟨envOf [(3, .op 0 0), (4, .op 1 0), (6, fBlks true l), (8, .op 2 0), (9, .v (.int .i64 k.1))],
  heapOf [(0, .row true 71 [.v (.int .i64 slot), .v (.int .i64 seq)]), (1, .row true 32 [.v (.slice none 0 0), .v (.slice none 0 0), .v (.slice none 0 0), .v (.int .i64 0)]), (2, stRow 32 true k.2)], 3⟩
abbrev L_rclean0 (s : St) (slot seq : Int) (_ : Unit) : ASt := ⟨envOf [(3, .op 0 0), (4, .op 1 0), (6, fBlks true []), (8, .op 2 0), (9, .v (.int .i64 0))],
  heapOf [(0, .row true 71 [.v (.int .i64 slot), .v (.int .i64 seq)]), (1, .row true 32 [.v (.slice none 0 0), .v (.slice none 0 0), .v (.slice none 0 0), .v (.int .i64 0)]),
    (2, .row true 32 [.os 3 0 s.segs.length 2, fBools true s.held, .os 4 0 s.opn.length 3, .v (.int .i64 s.next)]), (3, .row true 69 (eSegs true s.segs)), (4, .row true 55 (eBlks true s.opn))], 5⟩
set_option maxHeartbeats 2000000 in
theorem rclean_spec (fr : Bool) (s : St) (slot seq : Int) (nb : Nat) (hok : okSt s) : ASound Try.prog 35 [aSt fr s, aRec slot seq] nb (.ret (.tup [aSt true (rcl s slot seq).1, .v (.int .i64 (rcl s slot seq).2)]) []) := by
  refine ok_35.sound (by simp) ⟨al_aSt s, ⟨trivial, trivial, trivial⟩, trivial⟩ ?_
  simp only [ac_35, aRec, SS, boxA, cellsOf, foffA, loadA, ldA, idxA, fldA, binA, binVal, isSh, intVal, lenA, slenA, pickA, storeA, setN, getN, fillA, extA, beqA, eqsA, eqL, isnilA, unA, unVal, convA, nilA, sconvA, b2sA, b2sOf, bytesOf, mmA, srcA, appA, sliceA, lohi, mkslA, envA, ↓reduceIte, Nat.reduceEqDiff, Nat.reduceAdd, Nat.reduceMul, reduceCtorEq, Nat.reduceLeDiff, fB, fBools, fBlks, fSegs, aBlk, aSg, aSt, stRow, List.drop_zero, List.take_succ_cons, List.take_zero, List.take_nil, Nat.mul_one, Nat.one_mul, List.cons_append, List.nil_append]
  refine ⟨_, rLive_spec fr s slot _, ?_⟩
  rw [live_eq, used_eq]
  simp only [SS, boxA, cellsOf, foffA, loadA, ldA, idxA, fldA, binA, binVal, isSh, intVal, lenA, slenA, pickA, storeA, setN, getN, fillA, extA, beqA, eqsA, eqL, isnilA, unA, unVal, convA, nilA, sconvA, b2sA, b2sOf, bytesOf, mmA, srcA, appA, sliceA, lohi, mkslA, envA, ↓reduceIte, Nat.reduceEqDiff, Nat.reduceAdd, Nat.reduceMul, reduceCtorEq, Nat.reduceLeDiff, fB, fBools, fBlks, fSegs, aBlk, aSg, aSt, stRow, List.drop_zero, List.take_succ_cons, List.take_zero, List.take_nil, Nat.mul_one, Nat.one_mul, List.cons_append, List.nil_append]
  by_cases hu : liveErr s slot = 0
  · have hu' := hu
    rw [← used_eq] at hu'
    obtain ⟨hc, i, x, rfl, hx, hf⟩ := usedE_0 hu'
    have g := (rchk_iff s).1 hc
    have hlt : i < s.segs.length := by rw [List.getElem?_eq_some_iff] at hx; exact hx.1
    have e1 : (i : Int) < (s.segs.length : Int) := by omega
    have e0 : (0 : Int) ≤ (i : Int) := by omega
    obtain ⟨g0, g1⟩ := get_Segs (fr := fr) hx
    have hcl : rcl s i seq = if x.seq = seq then (if (clPut (liveL s i) s).2 = 0 then (freeSt (clPut (liveL s i) s).1 i, 0) else (St.zero, (clPut (liveL s i) s).2)) else (St.zero, 81) := by
      unfold rcl
      rw [if_pos hu, Int.toNat_natCast, hx]
    simp only [hu, e1, e0, g0, not_true, SS, boxA, cellsOf, foffA, loadA, ldA, idxA, fldA, binA, binVal, isSh, intVal, lenA, slenA, pickA, storeA, setN, getN, fillA, extA, beqA, eqsA, eqL, isnilA, unA, unVal, convA, nilA, sconvA, b2sA, b2sOf, bytesOf, mmA, srcA, appA, sliceA, lohi, mkslA, envA, ↓reduceIte, Nat.reduceEqDiff, Nat.reduceAdd, Nat.reduceMul, reduceCtorEq, Nat.reduceLeDiff, fB, fBools, fBlks, fSegs, aBlk, aSg, aSt, stRow, List.drop_zero, List.take_succ_cons, List.take_zero, List.take_nil, Nat.mul_one, Nat.one_mul, List.cons_append, List.nil_append]
    by_cases hq : x.seq = seq
    · rw [if_pos hq] at hcl
      simp only [hq, not_true, SS, boxA, cellsOf, foffA, loadA, ldA, idxA, fldA, binA, binVal, isSh, intVal, lenA, slenA, pickA, storeA, setN, getN, fillA, extA, beqA, eqsA, eqL, isnilA, unA, unVal, convA, nilA, sconvA, b2sA, b2sOf, bytesOf, mmA, srcA, appA, sliceA, lohi, mkslA, envA, ↓reduceIte, Nat.reduceEqDiff, Nat.reduceAdd, Nat.reduceMul, reduceCtorEq, Nat.reduceLeDiff, fB, fBools, fBlks, fSegs, aBlk, aSg, aSt, stRow, List.drop_zero, List.take_succ_cons, List.take_zero, List.take_nil, Nat.mul_one, Nat.one_mul, List.cons_append, List.nil_append]
      have hm := live_may (s := s) (slot := (i : Int))
      have hbo := live_blkok (slot := (i : Int)) hok
      have hl8 := (live_len s (i : Int)).1
      generalize liveL s (i : Int) = l at hcl hm hbo hl8 ⊢
      refine ⟨by rfl, ?_⟩
      refine ⟨_, rOwn_os fr s _ (rchk_RB hc), ?_⟩
      simp only [SS, boxA, cellsOf, foffA, loadA, ldA, idxA, fldA, binA, binVal, isSh, intVal, lenA, slenA, pickA, storeA, setN, getN, fillA, extA, beqA, eqsA, eqL, isnilA, unA, unVal, convA, nilA, sconvA, b2sA, b2sOf, bytesOf, mmA, srcA, appA, sliceA, lohi, mkslA, envA, ↓reduceIte, Nat.reduceEqDiff, Nat.reduceAdd, Nat.reduceMul, reduceCtorEq, Nat.reduceLeDiff, fB, fBools, fBlks, fSegs, aBlk, aSg, aSt, stRow, List.drop_zero, List.take_succ_cons, List.take_zero, List.take_nil, Nat.mul_one, Nat.one_mul, List.cons_append, List.nil_append]
      by_cases hl0 : l = []
      · subst hl0
        refine AWc.family (L_rclean0 s i seq) (fun _ => True) (fun _ => 0) () trivial ?_ ?_
        · refine Weak.calc [(64, 0), (128, 1), (1856, 2), (1792, 3), (1793, 4)] (by decide) ?_ ?_ <;> simp [hq, tk_B, tk_Bools, tk_Blks, tk_Segs, AlL_append, renL_append, okL, okH, rowIs, okV, okHV, rowVt, vtL, okF, okHF, rowFz, fzL, fzV, fzOne, nilLike, oldLike, rn, s_envOf, s_envOf0, s_heapOf, s_heapOf0, s_put, s_put0, s_put1, s_app0, s_app1, Al, AlL, ren, renL, al_B, al_Bools, al_Blks, al_Segs, ren_B, ren_Bools, ren_Blks, ren_Segs, fB, fBools, fBlks, fSegs]
        · intro _ _
          have hc2 : rcl s i seq = (freeSt s i, 0) := by rw [hcl]; simp [clPut, clGo, clEnd]
          have z1 : ((0 : Int) < ((0 : Nat) : Int)) = False := by simp
          simp only [L_rclean0, List.length_nil, z1, SS, boxA, cellsOf, foffA, loadA, ldA, idxA, fldA, binA, binVal, isSh, intVal, lenA, slenA, pickA, storeA, setN, getN, fillA, extA, beqA, eqsA, eqL, isnilA, unA, unVal, convA, nilA, sconvA, b2sA, b2sOf, bytesOf, mmA, srcA, appA, sliceA, lohi, mkslA, envA, ↓reduceIte, Nat.reduceEqDiff, Nat.reduceAdd, Nat.reduceMul, reduceCtorEq, Nat.reduceLeDiff, fB, fBools, fBlks, fSegs, aBlk, aSg, aSt, stRow, List.drop_zero, List.take_succ_cons, List.take_zero, List.take_nil, Nat.mul_one, Nat.one_mul, List.cons_append, List.nil_append]
          refine ⟨_, Weak.refl _, ?_⟩
          simp only [z1, SS, boxA, cellsOf, foffA, loadA, ldA, idxA, fldA, binA, binVal, isSh, intVal, lenA, slenA, pickA, storeA, setN, getN, fillA, extA, beqA, eqsA, eqL, isnilA, unA, unVal, convA, nilA, sconvA, b2sA, b2sOf, bytesOf, mmA, srcA, appA, sliceA, lohi, mkslA, envA, ↓reduceIte, Nat.reduceEqDiff, Nat.reduceAdd, Nat.reduceMul, reduceCtorEq, Nat.reduceLeDiff, fB, fBools, fBlks, fSegs, aBlk, aSg, aSt, stRow, List.drop_zero, List.take_succ_cons, List.take_zero, List.take_nil, Nat.mul_one, Nat.one_mul, List.cons_append, List.nil_append]
          rw [if_pos (by omega), if_pos (by rw [len_Segs]; omega), hc2]
          unfold freeSt
          refine Ends.weak (Weak.trans (Weak.freezeC 4 rfl (l := [(4, .op 1 0), (5, .v (.int .i64 0))])
              (h := [(1, .row true 32 [.os 3 0 s.segs.length 2, fBools true s.held, fBlks true s.opn, .v (.int .i64 s.next)]), (3, .row true 69 (((eSegs true s.segs).set (i * 2) (.v (.int .i64 0))).set (i * 2 + 1) (.v (.slice none 0 0))))]) ?_ ?_)
            (Weak.freezeC 3 rfl (l := [(4, .op 1 0), (5, .v (.int .i64 0))])
              (h := [(1, .row true 32 [.fs true (((eSegs true s.segs).set (i * 2) (.v (.int .i64 0))).set (i * 2 + 1) (.v (.slice none 0 0))) s.segs.length, fBools true s.held, fBlks true s.opn, .v (.int .i64 s.next)])]) ?_ ?_)) ?_
          · simp [tk_B, tk_Bools, tk_Blks, tk_Segs, AlL_append, renL_append, okL, okH, rowIs, okV, okHV, rowVt, vtL, okF, okHF, rowFz, fzL, fzV, fzOne, nilLike, oldLike, rn, s_envOf, s_envOf0, s_heapOf, s_heapOf0, s_put, s_put0, s_put1, s_app0, s_app1, Al, AlL, ren, renL, al_B, al_Bools, al_Blks, al_Segs, ren_B, ren_Bools, ren_Blks, ren_Segs, fB, fBools, fBlks, fSegs]
          · simp [tk_B, tk_Bools, tk_Blks, tk_Segs, AlL_append, renL_append, okL, okH, rowIs, okV, okHV, rowVt, vtL, okF, okHF, rowFz, fzL, fzV, fzOne, nilLike, oldLike, rn, s_envOf, s_envOf0, s_heapOf, s_heapOf0, s_put, s_put0, s_put1, s_app0, s_app1, Al, AlL, ren, renL, al_B, al_Bools, al_Blks, al_Segs, ren_B, ren_Bools, ren_Blks, ren_Segs, fB, fBools, fBlks, fSegs]
          · simp [tk_B, tk_Bools, tk_Blks, tk_Segs, AlL_append, renL_append, okL, okH, rowIs, okV, okHV, rowVt, vtL, okF, okHF, rowFz, fzL, fzV, fzOne, nilLike, oldLike, rn, s_envOf, s_envOf0, s_heapOf, s_heapOf0, s_put, s_put0, s_put1, s_app0, s_app1, Al, AlL, ren, renL, al_B, al_Bools, al_Blks, al_Segs, ren_B, ren_Bools, ren_Blks, ren_Segs, fB, fBools, fBlks, fSegs]
          · simp [tk_B, tk_Bools, tk_Blks, tk_Segs, AlL_append, renL_append, okL, okH, rowIs, okV, okHV, rowVt, vtL, okF, okHF, rowFz, fzL, fzV, fzOne, nilLike, oldLike, rn, s_envOf, s_envOf0, s_heapOf, s_heapOf0, s_put, s_put0, s_put1, s_app0, s_app1, Al, AlL, ren, renL, al_B, al_Bools, al_Blks, al_Segs, ren_B, ren_Bools, ren_Blks, ren_Segs, fB, fBools, fBlks, fSegs]
            exact .inl (List.take_of_length_le (by simp [len_Segs])).symm
          · refine Ends.imp (.inr rfl) (r0 := .tup [.agg [.fs true (((eSegs true s.segs).set (i * 2) (.v (.int .i64 0))).set (i * 2 + 1) (.v (.slice none 0 0))) s.segs.length, fBools true s.held, fBlks true s.opn, .v (.int .i64 s.next)], .v (.int .i64 0)]) (by simp [resL, resOne, tupOf, getN, s_envOf, s_envOf0, s_heapOf, s_heapOf0, s_put1, s_app0, s_app1]) ⟨⟨pu_set (pu_set (al_Segs _) trivial) trivial, al_Bools _, al_Blks _, trivial, trivial⟩, trivial, trivial⟩ (Imp.tupL ⟨Imp.aggL ⟨?_, Imp.refl _, Imp.refl _, Imp.refl _, trivial⟩, Imp.refl _, trivial⟩)
            rw [List.length_set]
            exact imp_setSegs hlt 0 _
      · refine AWc.family (L_rclean l i seq) (fun k => k.1 ≤ l.length ∧ Good k.2 ∧ okSt k.2 ∧ clGo (l.drop k.1) k.2 = clGo l s) (fun k => l.length - k.1) (0, s) ⟨Nat.zero_le _, g, hok, rfl⟩ ?_ ?_
        · refine Weak.trans (Weak.freezeC 1793 rfl (l := [(3, .op 64 0), (4, .op 128 0), (6, fBlks true l), (8, .op 1856 0), (9, .v (.int .i64 0))])
            (h := [(64, .row true 71 [.v (.int .i64 i), .v (.int .i64 seq)]), (128, .row true 32 [.v (.slice none 0 0), .v (.slice none 0 0), .v (.slice none 0 0), .v (.int .i64 0)]),
              (1856, .row true 32 [.os 1792 0 s.segs.length 2, fBools true s.held, fBlks true s.opn, .v (.int .i64 s.next)]), (1792, .row true 69 (eSegs true s.segs))]) ?_ ?_)
            (Weak.trans (Weak.freezeC 1792 rfl (l := [(3, .op 64 0), (4, .op 128 0), (6, fBlks true l), (8, .op 1856 0), (9, .v (.int .i64 0))])
            (h := [(64, .row true 71 [.v (.int .i64 i), .v (.int .i64 seq)]), (128, .row true 32 [.v (.slice none 0 0), .v (.slice none 0 0), .v (.slice none 0 0), .v (.int .i64 0)]),
              (1856, .row true 32 [fSegs true s.segs, fBools true s.held, fBlks true s.opn, .v (.int .i64 s.next)])]) ?_ ?_)
            (Weak.calc [(64, 0), (128, 1), (1856, 2)] (by decide) ?_ ?_))
          all_goals simp [hq, tk_B, tk_Bools, tk_Blks, tk_Segs, AlL_append, renL_append, okL, okH, rowIs, okV, okHV, rowVt, vtL, okF, okHF, rowFz, fzL, fzV, fzOne, nilLike, oldLike, rn, s_envOf, s_envOf0, s_heapOf, s_heapOf0, s_put, s_put0, s_put1, s_app0, s_app1, Al, AlL, ren, renL, al_B, al_Bools, al_Blks, al_Segs, ren_B, ren_Bools, ren_Blks, ren_Segs, fB, fBools, fBlks, fSegs]
        · rintro ⟨k, t⟩ ⟨hk, gt, okt, hgo⟩
          simp only at hk gt okt hgo
          by_cases hlt : k < l.length
          · obtain ⟨b, hb, e1, e0⟩ := lt_at hlt
            have hbm := List.mem_of_getElem? hb
            obtain ⟨g0, g1, g2, g3⟩ := get_Blks3 (fr := true) hb
            have e3 : k * 3 + 3 ≤ l.length * 3 := by omega
            have hd : l.drop k = b :: l.drop (k + 1) := by
              rw [List.getElem?_eq_some_iff] at hb
              obtain ⟨h1, rfl⟩ := hb
              exact List.drop_eq_getElem_cons h1
            rw [hd] at hgo
            have hpo := put_ok gt (hm b hbm)
            have h8 := gt.opn8
            by_cases hp : (8 : Int) ≤ (t.opn.length : Int)
            · have hp8 : t.opn.length = 8 := by omega
              rw [if_pos hp8] at hpo
              simp only [L_rclean, e1, hp, SS, boxA, cellsOf, foffA, loadA, ldA, idxA, fldA, binA, binVal, isSh, intVal, lenA, slenA, pickA, storeA, setN, getN, fillA, extA, beqA, eqsA, eqL, isnilA, unA, unVal, convA, nilA, sconvA, b2sA, b2sOf, bytesOf, mmA, srcA, appA, sliceA, lohi, mkslA, envA, ↓reduceIte, Nat.reduceEqDiff, Nat.reduceAdd, Nat.reduceMul, reduceCtorEq, Nat.reduceLeDiff, fB, fBools, fBlks, fSegs, aBlk, aSg, aSt, stRow, List.drop_zero, List.take_succ_cons, List.take_zero, List.take_nil, Nat.mul_one, Nat.one_mul, List.cons_append, List.nil_append]
              refine ⟨_, rSeal_spec true t _, ?_⟩
              rw [(sl_eq t).1, (sl_eq t).2.1, (sl_eq t).2.2]
              simp only [SS, boxA, cellsOf, foffA, loadA, ldA, idxA, fldA, binA, binVal, isSh, intVal, lenA, slenA, pickA, storeA, setN, getN, fillA, extA, beqA, eqsA, eqL, isnilA, unA, unVal, convA, nilA, sconvA, b2sA, b2sOf, bytesOf, mmA, srcA, appA, sliceA, lohi, mkslA, envA, ↓reduceIte, Nat.reduceEqDiff, Nat.reduceAdd, Nat.reduceMul, reduceCtorEq, Nat.reduceLeDiff, fB, fBools, fBlks, fSegs, aBlk, aSg, aSt, stRow, List.drop_zero, List.take_succ_cons, List.take_zero, List.take_nil, Nat.mul_one, Nat.one_mul, List.cons_append, List.nil_append]
              by_cases hs : slErr t = 0
              · have gs := good_seal gt hs
                have h2 : putErr (slSt t) b = 0 := by rw [put_ok gs (hm b hbm), seal_opn hs]; rfl
                simp only [hs, g0, g1, g2, g3, e1, e0, e3, len_Blks, not_true, SS, boxA, cellsOf, foffA, loadA, ldA, idxA, fldA, binA, binVal, isSh, intVal, lenA, slenA, pickA, storeA, setN, getN, fillA, extA, beqA, eqsA, eqL, isnilA, unA, unVal, convA, nilA, sconvA, b2sA, b2sOf, bytesOf, mmA, srcA, appA, sliceA, lohi, mkslA, envA, ↓reduceIte, Nat.reduceEqDiff, Nat.reduceAdd, Nat.reduceMul, reduceCtorEq, Nat.reduceLeDiff, fB, fBools, fBlks, fSegs, aBlk, aSg, aSt, stRow, List.drop_zero, List.take_succ_cons, List.take_zero, List.take_nil, Nat.mul_one, Nat.one_mul, List.cons_append, List.nil_append]
                refine ⟨_, rPut_spec true true (slSt t) b _, ?_⟩
                rw [(put_eq (slSt t) b).1, (put_eq (slSt t) b).2]
                simp only [SS, boxA, cellsOf, foffA, loadA, ldA, idxA, fldA, binA, binVal, isSh, intVal, lenA, slenA, pickA, storeA, setN, getN, fillA, extA, beqA, eqsA, eqL, isnilA, unA, unVal, convA, nilA, sconvA, b2sA, b2sOf, bytesOf, mmA, srcA, appA, sliceA, lohi, mkslA, envA, ↓reduceIte, Nat.reduceEqDiff, Nat.reduceAdd, Nat.reduceMul, reduceCtorEq, Nat.reduceLeDiff, fB, fBools, fBlks, fSegs, aBlk, aSg, aSt, stRow, List.drop_zero, List.take_succ_cons, List.take_zero, List.take_nil, Nat.mul_one, Nat.one_mul, List.cons_append, List.nil_append]
                refine ⟨by rfl, famC_next (k + 1, putSt (slSt t) b) (by simp only; omega) ⟨by simp only; omega, good_put gs (hm b hbm) h2, okSt_put (okSt_seal okt) (hbo b hbm), by rw [← hgo]; simp [clGo, hpo, hs]⟩ ?_⟩
                refine Weak.calc [(0, 0), (1, 1), (2, 2)] (by decide) ?_ ?_ <;> simp [tk_B, tk_Bools, tk_Blks, tk_Segs, AlL_append, renL_append, okL, okH, rowIs, okV, okHV, rowVt, vtL, okF, okHF, rowFz, fzL, fzV, fzOne, nilLike, oldLike, rn, s_envOf, s_envOf0, s_heapOf, s_heapOf0, s_put, s_put0, s_put1, s_app0, s_app1, Al, AlL, ren, renL, al_B, al_Bools, al_Blks, al_Segs, ren_B, ren_Bools, ren_Blks, ren_Segs, fB, fBools, fBlks, fSegs, wrap64 (x := (k : Int) + 1) (by omega)]
              · simp only [hs, not_false_eq_true, SS, boxA, cellsOf, foffA, loadA, ldA, idxA, fldA, binA, binVal, isSh, intVal, lenA, slenA, pickA, storeA, setN, getN, fillA, extA, beqA, eqsA, eqL, isnilA, unA, unVal, convA, nilA, sconvA, b2sA, b2sOf, bytesOf, mmA, srcA, appA, sliceA, lohi, mkslA, envA, ↓reduceIte, Nat.reduceEqDiff, Nat.reduceAdd, Nat.reduceMul, reduceCtorEq, Nat.reduceLeDiff, fB, fBools, fBlks, fSegs, aBlk, aSg, aSt, stRow, List.drop_zero, List.take_succ_cons, List.take_zero, List.take_nil, Nat.mul_one, Nat.one_mul, List.cons_append, List.nil_append]
                have hg2 : clGo l s = (St.zero, slErr t) := by rw [← hgo]; simp [clGo, hpo, hs]
                rw [hcl, clPut, hg2]
                simp only [hs, if_false]
                exact Ends.zero (by simp [resL, resOne, tupOf, getN, s_envOf, s_envOf0, s_heapOf, s_heapOf0, s_put1, s_app0, s_app1])
            · have hp8 : ¬ t.opn.length = 8 := by omega
              rw [if_neg hp8] at hpo
              simp only [L_rclean, g0, g1, g2, g3, e1, e0, e3, hp, len_Blks, SS, boxA, cellsOf, foffA, loadA, ldA, idxA, fldA, binA, binVal, isSh, intVal, lenA, slenA, pickA, storeA, setN, getN, fillA, extA, beqA, eqsA, eqL, isnilA, unA, unVal, convA, nilA, sconvA, b2sA, b2sOf, bytesOf, mmA, srcA, appA, sliceA, lohi, mkslA, envA, ↓reduceIte, Nat.reduceEqDiff, Nat.reduceAdd, Nat.reduceMul, reduceCtorEq, Nat.reduceLeDiff, fB, fBools, fBlks, fSegs, aBlk, aSg, aSt, stRow, List.drop_zero, List.take_succ_cons, List.take_zero, List.take_nil, Nat.mul_one, Nat.one_mul, List.cons_append, List.nil_append]
              refine ⟨_, rPut_spec true true t b _, ?_⟩
              rw [(put_eq t b).1, (put_eq t b).2]
              simp only [SS, boxA, cellsOf, foffA, loadA, ldA, idxA, fldA, binA, binVal, isSh, intVal, lenA, slenA, pickA, storeA, setN, getN, fillA, extA, beqA, eqsA, eqL, isnilA, unA, unVal, convA, nilA, sconvA, b2sA, b2sOf, bytesOf, mmA, srcA, appA, sliceA, lohi, mkslA, envA, ↓reduceIte, Nat.reduceEqDiff, Nat.reduceAdd, Nat.reduceMul, reduceCtorEq, Nat.reduceLeDiff, fB, fBools, fBlks, fSegs, aBlk, aSg, aSt, stRow, List.drop_zero, List.take_succ_cons, List.take_zero, List.take_nil, Nat.mul_one, Nat.one_mul, List.cons_append, List.nil_append]
              refine ⟨by rfl, famC_next (k + 1, putSt t b) (by simp only; omega) ⟨by simp only; omega, good_put gt (hm b hbm) hpo, okSt_put okt (hbo b hbm), by rw [← hgo]; simp [clGo, hpo]⟩ ?_⟩
              refine Weak.calc [(0, 0), (1, 1), (2, 2)] (by decide) ?_ ?_ <;> simp [tk_B, tk_Bools, tk_Blks, tk_Segs, AlL_append, renL_append, okL, okH, rowIs, okV, okHV, rowVt, vtL, okF, okHF, rowFz, fzL, fzV, fzOne, nilLike, oldLike, rn, s_envOf, s_envOf0, s_heapOf, s_heapOf0, s_put, s_put0, s_put1, s_app0, s_app1, Al, AlL, ren, renL, al_B, al_Bools, al_Blks, al_Segs, ren_B, ren_Bools, ren_Blks, ren_Segs, fB, fBools, fBlks, fSegs, wrap64 (x := (k : Int) + 1) (by omega)]
          · obtain rfl : k = l.length := by omega
            have e1 : ¬ ((l.length : Int) < (l.length : Int)) := by omega
            rw [List.drop_length] at hgo
            have hg2 : clGo l s = (t, 0) := by rw [← hgo]; rfl
            have hln : l.length ≠ 0 := fun h => hl0 (List.eq_nil_of_length_eq_zero h)
            have e2 : (0 : Int) < (l.length : Int) := by omega
            simp only [L_rclean, e1, SS, boxA, cellsOf, foffA, loadA, ldA, idxA, fldA, binA, binVal, isSh, intVal, lenA, slenA, pickA, storeA, setN, getN, fillA, extA, beqA, eqsA, eqL, isnilA, unA, unVal, convA, nilA, sconvA, b2sA, b2sOf, bytesOf, mmA, srcA, appA, sliceA, lohi, mkslA, envA, ↓reduceIte, Nat.reduceEqDiff, Nat.reduceAdd, Nat.reduceMul, reduceCtorEq, Nat.reduceLeDiff, fB, fBools, fBlks, fSegs, aBlk, aSg, aSt, stRow, List.drop_zero, List.take_succ_cons, List.take_zero, List.take_nil, Nat.mul_one, Nat.one_mul, List.cons_append, List.nil_append]
            refine ⟨_, Weak.refl _, ?_⟩
            simp only [e2, SS, boxA, cellsOf, foffA, loadA, ldA, idxA, fldA, binA, binVal, isSh, intVal, lenA, slenA, pickA, storeA, setN, getN, fillA, extA, beqA, eqsA, eqL, isnilA, unA, unVal, convA, nilA, sconvA, b2sA, b2sOf, bytesOf, mmA, srcA, appA, sliceA, lohi, mkslA, envA, ↓reduceIte, Nat.reduceEqDiff, Nat.reduceAdd, Nat.reduceMul, reduceCtorEq, Nat.reduceLeDiff, fB, fBools, fBlks, fSegs, aBlk, aSg, aSt, stRow, List.drop_zero, List.take_succ_cons, List.take_zero, List.take_nil, Nat.mul_one, Nat.one_mul, List.cons_append, List.nil_append]
            by_cases hs : slErr t = 0
            · have hz : rslE t = 0 := by rw [(sl_eq t).1]; exact hs
              refine ⟨_, rSeal_os true t _ hz, ?_⟩
              rw [(sl_eq t).2.1, (sl_eq t).2.2]
              obtain ⟨_, _, _, kk, _, _, ek⟩ := sl_facts hs
              have hH : (slSt t).held = t.held := by rw [ek]; rfl
              have hO : (slSt t).opn = [] := seal_opn hs
              have hN : (slSt t).next = t.next + 1 := by rw [ek]; rfl
              have hL : (slSt t).segs.length = t.segs.length := by rw [ek]; simp [sealSt]
              have hti : t.segs[i]? = some x := by
                have := ((clGo_facts l s g hm).2 (by rw [hg2])).2.2 i x hx (by rw [← freeB'_eq]; exact hf)
                rw [hg2] at this; exact this
              have hti2 := idx_lt hti
              have hc2 : rcl s i seq = (freeSt (slSt t) i, 0) := by rw [hcl, clPut, hg2]; simp [clEnd, hl0, hs]
              simp only [not_true, SS, boxA, cellsOf, foffA, loadA, ldA, idxA, fldA, binA, binVal, isSh, intVal, lenA, slenA, pickA, storeA, setN, getN, fillA, extA, beqA, eqsA, eqL, isnilA, unA, unVal, convA, nilA, sconvA, b2sA, b2sOf, bytesOf, mmA, srcA, appA, sliceA, lohi, mkslA, envA, ↓reduceIte, Nat.reduceEqDiff, Nat.reduceAdd, Nat.reduceMul, reduceCtorEq, Nat.reduceLeDiff, fB, fBools, fBlks, fSegs, aBlk, aSg, aSt, stRow, List.drop_zero, List.take_succ_cons, List.take_zero, List.take_nil, Nat.mul_one, Nat.one_mul, List.cons_append, List.nil_append]
              rw [if_pos (by omega), if_pos (by rw [len_Segs, hL]; omega), hc2]
              unfold freeSt
              simp only [hH, hO, hN]
              refine Ends.weak (Weak.freezeC 515 rfl (l := [(4, .op 1 0), (5, .v (.int .i64 0))])
                (h := [(1, .row true 32 [.fs true (((eSegs true (slSt t).segs).set (i * 2) (.v (.int .i64 0))).set (i * 2 + 1) (.v (.slice none 0 0))) t.segs.length, fBools true t.held, .v (.slice none 0 0), .v (.int .i64 (t.next + 1))])]) ?_ ?_) ?_
              · simp [tk_B, tk_Bools, tk_Blks, tk_Segs, AlL_append, renL_append, okL, okH, rowIs, okV, okHV, rowVt, vtL, okF, okHF, rowFz, fzL, fzV, fzOne, nilLike, oldLike, rn, s_envOf, s_envOf0, s_heapOf, s_heapOf0, s_put, s_put0, s_put1, s_app0, s_app1, Al, AlL, ren, renL, al_B, al_Bools, al_Blks, al_Segs, ren_B, ren_Bools, ren_Blks, ren_Segs, fB, fBools, fBlks, fSegs]
              · simp [tk_B, tk_Bools, tk_Blks, tk_Segs, AlL_append, renL_append, okL, okH, rowIs, okV, okHV, rowVt, vtL, okF, okHF, rowFz, fzL, fzV, fzOne, nilLike, oldLike, rn, s_envOf, s_envOf0, s_heapOf, s_heapOf0, s_put, s_put0, s_put1, s_app0, s_app1, Al, AlL, ren, renL, al_B, al_Bools, al_Blks, al_Segs, ren_B, ren_Bools, ren_Blks, ren_Segs, fB, fBools, fBlks, fSegs]
                exact .inl (List.take_of_length_le (by simp [len_Segs, hL])).symm
              · refine Ends.imp (.inr rfl) (r0 := .tup [.agg [.fs true (((eSegs true (slSt t).segs).set (i * 2) (.v (.int .i64 0))).set (i * 2 + 1) (.v (.slice none 0 0))) t.segs.length, fBools true t.held, .v (.slice none 0 0), .v (.int .i64 (t.next + 1))], .v (.int .i64 0)]) (by simp [resL, resOne, tupOf, getN, s_envOf, s_envOf0, s_heapOf, s_heapOf0, s_put1, s_app0, s_app1]) ⟨⟨pu_set (pu_set (al_Segs _) trivial) trivial, al_Bools _, trivial, trivial, trivial⟩, trivial, trivial⟩ (Imp.tupL ⟨Imp.aggL ⟨?_, Imp.refl _, Imp.nil _, Imp.refl _, trivial⟩, Imp.refl _, trivial⟩)
                rw [List.length_set, hL]
                exact imp_setSegs (by rw [hL]; exact hti2) 0 _
            · refine ⟨_, rSeal_spec true t _, ?_⟩
              rw [(sl_eq t).1, (sl_eq t).2.1, (sl_eq t).2.2]
              simp only [hs, not_false_eq_true, SS, boxA, cellsOf, foffA, loadA, ldA, idxA, fldA, binA, binVal, isSh, intVal, lenA, slenA, pickA, storeA, setN, getN, fillA, extA, beqA, eqsA, eqL, isnilA, unA, unVal, convA, nilA, sconvA, b2sA, b2sOf, bytesOf, mmA, srcA, appA, sliceA, lohi, mkslA, envA, ↓reduceIte, Nat.reduceEqDiff, Nat.reduceAdd, Nat.reduceMul, reduceCtorEq, Nat.reduceLeDiff, fB, fBools, fBlks, fSegs, aBlk, aSg, aSt, stRow, List.drop_zero, List.take_succ_cons, List.take_zero, List.take_nil, Nat.mul_one, Nat.one_mul, List.cons_append, List.nil_append]
              have hc2 : rcl s i seq = (St.zero, slErr t) := by rw [hcl, clPut, hg2]; simp [clEnd, hl0, hs]
              rw [hc2]
              exact Ends.zero (by simp [resL, resOne, tupOf, getN, s_envOf, s_envOf0, s_heapOf, s_heapOf0, s_put1, s_app0, s_app1])
    · rw [if_neg hq] at hcl
      simp only [hq, not_false_eq_true, SS, boxA, cellsOf, foffA, loadA, ldA, idxA, fldA, binA, binVal, isSh, intVal, lenA, slenA, pickA, storeA, setN, getN, fillA, extA, beqA, eqsA, eqL, isnilA, unA, unVal, convA, nilA, sconvA, b2sA, b2sOf, bytesOf, mmA, srcA, appA, sliceA, lohi, mkslA, envA, ↓reduceIte, Nat.reduceEqDiff, Nat.reduceAdd, Nat.reduceMul, reduceCtorEq, Nat.reduceLeDiff, fB, fBools, fBlks, fSegs, aBlk, aSg, aSt, stRow, List.drop_zero, List.take_succ_cons, List.take_zero, List.take_nil, Nat.mul_one, Nat.one_mul, List.cons_append, List.nil_append]
      refine ⟨by rfl, ?_⟩
      rw [hcl]
      exact Ends.zero (by simp [resL, resOne, tupOf, getN, s_envOf, s_envOf0, s_heapOf, s_heapOf0, s_put1, s_app0, s_app1])
  · have hcl : rcl s slot seq = (St.zero, liveErr s slot) := by unfold rcl; rw [if_neg hu]
    simp only [hu, not_false_eq_true, SS, boxA, cellsOf, foffA, loadA, ldA, idxA, fldA, binA, binVal, isSh, intVal, lenA, slenA, pickA, storeA, setN, getN, fillA, extA, beqA, eqsA, eqL, isnilA, unA, unVal, convA, nilA, sconvA, b2sA, b2sOf, bytesOf, mmA, srcA, appA, sliceA, lohi, mkslA, envA, ↓reduceIte, Nat.reduceEqDiff, Nat.reduceAdd, Nat.reduceMul, reduceCtorEq, Nat.reduceLeDiff, fB, fBools, fBlks, fSegs, aBlk, aSg, aSt, stRow, List.drop_zero, List.take_succ_cons, List.take_zero, List.take_nil, Nat.mul_one, Nat.one_mul, List.cons_append, List.nil_append]
    rw [hcl]
    exact Ends.zero (by simp [resL, resOne, tupOf, getN, s_envOf, s_envOf0, s_heapOf, s_heapOf0, s_put1, s_app0, s_app1])
end Go.Proofs.Ytfoeddmbhmfjcaa
/- Plain: what a log's last block of a kind is: the entry with the greatest number, and place. -/
namespace Go.Proofs.Ytfoeddmbhmfjcaa
open Go.RowKit
def isKind (o x : Int) (b : Blk) : Prop := b.own = o ∧ b.idx = x
instance (o x : Int) (b : Blk) : Decidable (isKind o x b) := inferInstanceAs (Decidable (_ ∧ _))
/-- of the entries E, A is the last one of the kind -/
structure Lst (o x : Int) (E : Int → Nat → Blk → Prop) (A : LA) : Prop where
  top : ∀ q j b, E q j b → isKind o x b → q < A.q ∨ (q = A.q ∧ (j : Int) ≤ A.a)
  mem : A.n ≠ 0 → ∃ q j b, E q j b ∧ isKind o x b ∧ A.q = q ∧ A.a = (j : Int) ∧ A.d = b.data
  none : A.n = 0 → A = ⟨0, 0, [], 0⟩ ∧ ∀ q j b, E q j b → ¬ isKind o x b
/-- one entry more -/
theorem Lst.step {o x : Int} {E : Int → Nat → Blk → Prop} {A : LA} (h : Lst o x E A) {seq : Int} {i : Nat} {b : Blk} (h0 : 0 ≤ seq) (hq : ∀ q j b, E q j b → q = seq → j < i) (hA : 0 ≤ A.q) :
    Lst o x (fun q j b' => E q j b' ∨ (q = seq ∧ j = i ∧ b' = b)) (stepSeg o x seq A (b, i)) := by
  unfold stepSeg
  by_cases hk : b.own = o ∧ b.idx = x
  · rw [if_pos hk]
    by_cases hle : A.q ≤ seq
    · rw [if_pos hle]
      refine ⟨fun q j b' he hb => ?_, fun _ => ⟨seq, i, b, .inr ⟨rfl, rfl, rfl⟩, hk, rfl, rfl, rfl⟩, fun h => by cases h⟩
      rcases he with he | ⟨rfl, rfl, rfl⟩
      · rcases h.top q j b' he hb with h1 | ⟨h1, h2⟩
        · left; show q < seq; omega
        · by_cases e : q = seq
          · right; exact ⟨e, by show (j : Int) ≤ (i : Int); have := hq q j b' he e; omega⟩
          · left; show q < seq; omega
      · right; exact ⟨rfl, Int.le_refl _⟩
    · rw [if_neg hle]
      refine ⟨fun q j b' he hb => ?_, fun _ => ?_, fun h => by cases h⟩
      · rcases he with he | ⟨rfl, rfl, rfl⟩
        · exact h.top q j b' he hb
        · left; show q < A.q; omega
      · have hn : A.n ≠ 0 := fun e => by have := (h.none e).1; rw [this] at hle; exact hle h0
        obtain ⟨q, j, b', h1, h2, h3, h4, h5⟩ := h.mem hn
        exact ⟨q, j, b', .inl h1, h2, h3, h4, h5⟩
  · rw [if_neg hk]
    refine ⟨fun q j b' he hb => ?_, fun hn => ?_, fun hn => ⟨(h.none hn).1, fun q j b' he hb => ?_⟩⟩
    · rcases he with he | ⟨rfl, rfl, rfl⟩
      · exact h.top q j b' he hb
      · exact absurd hb hk
    · obtain ⟨q, j, b', h1, h2, h3⟩ := h.mem hn
      exact ⟨q, j, b', .inl h1, h2, h3⟩
    · rcases he with he | ⟨rfl, rfl, rfl⟩
      · exact (h.none hn).2 q j b' he hb
      · exact hk hb
theorem Lst.iff {o x : Int} {E F : Int → Nat → Blk → Prop} {A : LA} (h : Lst o x E A) (he : ∀ q j b, E q j b ↔ F q j b) : Lst o x F A :=
  ⟨fun q j b hf => h.top q j b ((he q j b).2 hf), fun hn => by obtain ⟨q, j, b, h1, h2⟩ := h.mem hn; exact ⟨q, j, b, (he q j b).1 h1, h2⟩, fun hn => ⟨(h.none hn).1, fun q j b hf => (h.none hn).2 q j b ((he q j b).2 hf)⟩⟩
theorem step_q {o x seq : Int} {A : LA} {p : Blk × Nat} (h0 : 0 ≤ seq) (hA : 0 ≤ A.q) : 0 ≤ (stepSeg o x seq A p).q := by
  unfold stepSeg; split
  · split
    · exact h0
    · exact hA
  · exact hA
/-- a row of blocks of one number -/
theorem Lst.row {o x seq : Int} {E : Int → Nat → Blk → Prop} {A : LA} (h : Lst o x E A) (h0 : 0 ≤ seq) (hA : 0 ≤ A.q) (hne : ∀ q j b, E q j b → q ≠ seq) (l : List Blk) : ∀ k, k ≤ l.length →
    Lst o x (fun q j b => E q j b ∨ (q = seq ∧ j < k ∧ l[j]? = some b)) ((l.take k).zipIdx.foldl (stepSeg o x seq) A) ∧ 0 ≤ ((l.take k).zipIdx.foldl (stepSeg o x seq) A).q
  | 0, _ => ⟨h.iff fun q j b => by simp, hA⟩
  | k + 1, hk => by
    have hb := List.getElem?_eq_getElem (show k < l.length by omega)
    obtain ⟨ih, ihq⟩ := Lst.row h h0 hA hne l k (by omega)
    rw [zip_take hb]
    refine ⟨(ih.step (b := l[k]) (i := k) h0 (fun q j b he e => ?_) ihq).iff fun q j b => ?_, step_q h0 ihq⟩
    · rcases he with he | ⟨_, h1, _⟩
      · exact absurd e (hne q j b he)
      · exact h1
    · constructor
      · rintro ((he | ⟨h1, h2, h3⟩) | ⟨rfl, rfl, rfl⟩)
        · exact .inl he
        · exact .inr ⟨h1, by omega, h3⟩
        · exact .inr ⟨rfl, by omega, hb⟩
      · rintro (he | ⟨h1, h2, h3⟩)
        · exact .inl (.inl he)
        · by_cases e : j = k
          · subst e; rw [hb] at h3; exact .inr ⟨h1, rfl, (Option.some.inj h3).symm⟩
          · exact .inl (.inr ⟨h1, by omega, h3⟩)
/-- the entries of a log: number, place, block -/
def Ent (s : St) (q : Int) (j : Nat) (b : Blk) : Prop := (∃ (i : Nat) (y : Sg), s.segs[i]? = some y ∧ y.seq = q ∧ y.blocks[j]? = some b) ∨ (q = s.next ∧ s.opn[j]? = some b)
theorem good_used {s : St} (g : Good s) {i : Nat} {y : Sg} (hy : s.segs[i]? = some y) {j : Nat} {b : Blk} (hb : y.blocks[j]? = some b) : freeB y = false ∧ 1 ≤ y.seq ∧ y.seq < s.next := by
  have hf : freeB y = false := by
    cases hf : freeB y with
    | false => rfl
    | true => simp only [freeB, decide_eq_true_eq] at hf; have := idx_lt hb; omega
  obtain ⟨h1, h2⟩ := g.seg i y hy hf
  simp only [sgOk, Bool.and_eq_true, decide_eq_true_eq] at h1
  exact ⟨hf, h1.1.1, h2⟩
theorem seq_pos {s : St} (g : Good s) {i : Nat} {y : Sg} (hy : s.segs[i]? = some y) : 0 ≤ y.seq := by
  cases hf : freeB y with
  | true => simp only [freeB, decide_eq_true_eq] at hf; omega
  | false =>
    have h1 := (g.seg i y hy hf).1
    simp only [sgOk, Bool.and_eq_true, decide_eq_true_eq] at h1
    omega
theorem lst_segs {s : St} (g : Good s) (o x : Int) : ∀ k, k ≤ s.segs.length → Lst o x (fun q j b => ∃ (i : Nat) (y : Sg), i < k ∧ s.segs[i]? = some y ∧ y.seq = q ∧ y.blocks[j]? = some b) (segsF o x (s.segs.take k)) ∧ 0 ≤ (segsF o x (s.segs.take k)).q
  | 0, _ => ⟨⟨fun q j b ⟨i, y, h, _⟩ => absurd h (Nat.not_lt_zero _), fun h => absurd rfl h, fun _ => ⟨rfl, fun q j b ⟨i, y, h, _⟩ => absurd h (Nat.not_lt_zero _)⟩⟩, Int.le_refl _⟩
  | k + 1, hk => by
    have hy := List.getElem?_eq_getElem (show k < s.segs.length by omega)
    obtain ⟨ih, ihq⟩ := lst_segs g o x k (by omega)
    have hr := ih.row (seq := s.segs[k].seq) (seq_pos g hy) ihq (fun q j b ⟨i, y, hi, h1, h2, h3⟩ e => by
      obtain ⟨u1, u2, u3⟩ := good_used g h1 h3
      cases hf : freeB s.segs[k] with
      | true => simp only [freeB, decide_eq_true_eq] at hf; omega
      | false => have := g.dist i k y _ h1 hy u1 hf (by omega); omega) s.segs[k].blocks _ (Nat.le_refl _)
    rw [List.take_length] at hr
    have he : segsF o x (s.segs.take (k + 1)) = s.segs[k].blocks.zipIdx.foldl (stepSeg o x s.segs[k].seq) (segsF o x (s.segs.take k)) := fold_take hy (segF o x) _
    rw [he]
    refine ⟨hr.1.iff fun q j b => ⟨?_, ?_⟩, hr.2⟩
    · rintro (⟨i, y, hi, h⟩ | ⟨h1, _, h3⟩)
      · exact ⟨i, y, by omega, h⟩
      · exact ⟨k, _, by omega, hy, h1.symm, h3⟩
    · rintro ⟨i, y, hi, h1, h2, h3⟩
      by_cases e : i = k
      · subst e; rw [hy] at h1; cases h1; exact .inr ⟨h2.symm, idx_lt h3, h3⟩
      · exact .inl ⟨i, y, by omega, h1, h2, h3⟩
theorem lst_last {s : St} (g : Good s) (o x : Int) : Lst o x (Ent s) (lastF s o x) := by
  obtain ⟨h1, h2⟩ := lst_segs g o x s.segs.length (Nat.le_refl _)
  rw [List.take_length] at h1 h2
  have hq : (segsF o x s.segs).q ≤ s.next := by
    refine segs_q _ _ (by have := g.next1; show (0 : Int) ≤ s.next; omega) fun y hy => ?_
    obtain ⟨i, hi⟩ := List.getElem?_of_mem hy
    cases hf : freeB y with
    | true => right; simp only [freeB, decide_eq_true_eq] at hf; exact List.eq_nil_of_length_eq_zero hf.2
    | false => left; have := (g.seg i y hi hf).2; omega
  unfold lastF
  rw [← opn_fold _ _ hq]
  have hr := h1.row (seq := s.next) (by have := g.next1; omega) h2 (fun q j b ⟨i, y, _, h3, h4, h5⟩ e => by
    obtain ⟨_, _, u3⟩ := good_used g h3 h5
    omega) s.opn _ (Nat.le_refl _)
  rw [List.take_length] at hr
  refine hr.1.iff fun q j b => ⟨?_, ?_⟩
  · rintro (⟨i, y, _, h⟩ | ⟨h1, _, h3⟩)
    · exact .inl ⟨i, y, h⟩
    · exact .inr ⟨h1, h3⟩
  · rintro (⟨i, y, h1, h⟩ | ⟨h1, h3⟩)
    · exact .inl ⟨i, y, idx_lt h1, h1, h⟩
    · exact .inr ⟨h1, idx_lt h3, h3⟩
theorem ent_fun {s : St} (g : Good s) {q : Int} {j : Nat} {b b' : Blk} (h : Ent s q j b) (h' : Ent s q j b') : b = b' := by
  rcases h with ⟨i, y, h1, h2, h3⟩ | ⟨h1, h2⟩
  · obtain ⟨u1, u2, u3⟩ := good_used g h1 h3
    rcases h' with ⟨i', y', k1, k2, k3⟩ | ⟨k1, k2⟩
    · obtain ⟨v1, _, _⟩ := good_used g k1 k3
      have e := g.dist i i' y y' h1 k1 u1 v1 (by omega)
      subst e
      rw [h1] at k1; cases k1
      rw [h3] at k3; exact Option.some.inj k3
    · omega
  · rcases h' with ⟨i', y', k1, k2, k3⟩ | ⟨k1, k2⟩
    · obtain ⟨v1, _, v3⟩ := good_used g k1 k3
      omega
    · rw [h2] at k2; exact Option.some.inj k2
theorem lst_eq {o x : Int} {E : Int → Nat → Blk → Prop} {A B : LA} (hA : Lst o x E A) (hB : Lst o x E B) (hf : ∀ q j b b', E q j b → E q j b' → b = b') (hn : A.n = B.n) : A = B := by
  by_cases h0 : A.n = 0
  · rw [(hA.none h0).1, (hB.none (by omega)).1]
  · obtain ⟨q, j, b, h1, h2, h3, h4, h5⟩ := hA.mem h0
    obtain ⟨q', j', b', k1, k2, k3, k4, k5⟩ := hB.mem (by omega)
    have t1 := hA.top q' j' b' k1 k2
    have t2 := hB.top q j b h1 h2
    have eq : q = q' := by omega
    have ej : j = j' := by omega
    subst eq; subst ej
    have eb := hf q j b b' h1 k1
    subst eb
    cases A; cases B
    simp only at *
    subst h3; subst h4; subst h5; subst k3; subst k4; subst k5; subst hn
    rfl
end Go.Proofs.Ytfoeddmbhmfjcaa
/- Plain: sealing changes no last block; what is put anew is the last. -/
namespace Go.Proofs.Ytfoeddmbhmfjcaa
open Go.RowKit
def cnt (o x : Int) (l : List Blk) : Nat := l.countP fun b => decide (b.own = o ∧ b.idx = x)
theorem n_seg {o x seq : Int} : ∀ (l : List Blk) (k : Nat) (A : LA), ((l.zipIdx k).foldl (stepSeg o x seq) A).n = A.n + cnt o x l
  | [], k, A => rfl
  | b :: l, k, A => by
    rw [List.zipIdx_cons, List.foldl_cons, n_seg l]
    unfold cnt
    rw [List.countP_cons]
    by_cases hk : b.own = o ∧ b.idx = x
    · have : (stepSeg o x seq A (b, k)).n = A.n + 1 := by unfold stepSeg; rw [if_pos hk]; split <;> rfl
      rw [this]; simp [hk]; omega
    · have : (stepSeg o x seq A (b, k)).n = A.n := by unfold stepSeg; rw [if_neg hk]
      rw [this]; simp [hk]
theorem n_opn {o x seq : Int} : ∀ (l : List Blk) (k : Nat) (A : LA), ((l.zipIdx k).foldl (stepOpn o x seq) A).n = A.n + cnt o x l
  | [], k, A => rfl
  | b :: l, k, A => by
    rw [List.zipIdx_cons, List.foldl_cons, n_opn l]
    unfold cnt
    rw [List.countP_cons]
    by_cases hk : b.own = o ∧ b.idx = x
    · have : (stepOpn o x seq A (b, k)).n = A.n + 1 := by unfold stepOpn; rw [if_pos hk]
      rw [this]; simp [hk]; omega
    · have : (stepOpn o x seq A (b, k)).n = A.n := by unfold stepOpn; rw [if_neg hk]
      rw [this]; simp [hk]
def cntS (o x : Int) : List Sg → Nat
  | [] => 0
  | g :: l => cnt o x g.blocks + cntS o x l
theorem n_segs {o x : Int} : ∀ (l : List Sg) (A : LA), (l.foldl (segF o x) A).n = A.n + cntS o x l
  | [], A => rfl
  | g :: l, A => by
    rw [List.foldl_cons, n_segs l, segF, n_seg, cntS]; omega
theorem n_last (s : St) (o x : Int) : (lastF s o x).n = cntS o x s.segs + cnt o x s.opn := by
  unfold lastF segsF
  rw [n_opn, n_segs]; simp
theorem cntS_set {o x : Int} : ∀ (l : List Sg) (k : Nat) (y a : Sg), l[k]? = some y → y.blocks = [] → cntS o x (l.set k a) = cntS o x l + cnt o x a.blocks
  | [], k, y, a, h, _ => by simp at h
  | g :: l, 0, y, a, h, hy => by
    simp at h; subst h
    simp only [List.set_cons_zero, cntS, hy]
    simp [cnt]; omega
  | g :: l, k + 1, y, a, h, hy => by
    rw [List.set_cons_succ, cntS, cntS, cntS_set l k y a (by simpa using h) hy]; omega
theorem ent_seal {t : St} (h : slErr t = 0) (q : Int) (j : Nat) (b : Blk) : Ent t q j b ↔ Ent (slSt t) q j b := by
  obtain ⟨_, _, _, k, hk, _, e⟩ := sl_facts h
  obtain ⟨y, hy, hfy⟩ := sealAt_free hk
  have hlt := sealAt_lt hk
  simp only [freeB, decide_eq_true_eq] at hfy
  rw [e]
  unfold Ent sealSt
  constructor
  · rintro (⟨i, z, h1, h2, h3⟩ | ⟨h1, h2⟩)
    · have hne : k ≠ i := by intro e; subst e; rw [hy] at h1; cases h1; have := idx_lt h3; omega
      exact .inl ⟨i, z, by rw [List.getElem?_set_ne hne]; exact h1, h2, h3⟩
    · exact .inl ⟨k, ⟨t.next, t.opn⟩, List.getElem?_set_self hlt, h1.symm, h2⟩
  · rintro (⟨i, z, h1, h2, h3⟩ | ⟨h1, h2⟩)
    · by_cases hne : k = i
      · subst hne; rw [List.getElem?_set_self hlt] at h1; cases h1; exact .inr ⟨h2.symm, h3⟩
      · rw [List.getElem?_set_ne hne] at h1; exact .inl ⟨i, z, h1, h2, h3⟩
    · simp at h2
theorem last_seal {t : St} (g : Good t) (h : slErr t = 0) (o x : Int) : lastF (slSt t) o x = lastF t o x := by
  refine (lst_eq (lst_last g o x) ((lst_last (good_seal g h) o x).iff fun q j b => (ent_seal h q j b).symm) (fun q j b b' => ent_fun g) ?_).symm
  rw [n_last, n_last]
  obtain ⟨_, _, _, k, hk, _, e⟩ := sl_facts h
  obtain ⟨y, hy, hfy⟩ := sealAt_free hk
  simp only [freeB, decide_eq_true_eq] at hfy
  rw [e]
  unfold sealSt
  rw [cntS_set t.segs k y _ hy (List.eq_nil_of_length_eq_zero hfy.2)]
  simp [cnt]
theorem last_put {t : St} {b : Blk} (h : putErr t b = 0) (o x : Int) : lastF (putSt t b) o x = if b.own = o ∧ b.idx = x then ⟨t.next, t.opn.length, b.data, (lastF t o x).n + 1⟩ else lastF t o x := by
  rw [putSt_ok h]
  unfold lastF
  rw [List.zipIdx_append, List.foldl_append]
  simp only [List.zipIdx_cons, List.zipIdx_nil, List.foldl_cons, List.foldl_nil, Nat.zero_add]
  rw [stepOpn]
end Go.Proofs.Ytfoeddmbhmfjcaa
/- Plain: behind a cleaning nothing of the slot is live: the program's cleaning is the page's. -/
namespace Go.Proofs.Ytfoeddmbhmfjcaa
open Go.RowKit
theorem go_last (o x : Int) : ∀ (l : List Blk) (t : St), Good t → (∀ b ∈ l, mayBlk b = true) → (clGo l t).2 = 0 →
    ((∃ b ∈ l, b.own = o ∧ b.idx = x) → t.next ≤ (lastF (clGo l t).1 o x).q) ∧ ((¬ ∃ b ∈ l, b.own = o ∧ b.idx = x) → lastF (clGo l t).1 o x = lastF t o x)
  | [], t, _, _, _ => ⟨fun ⟨b, hb, _⟩ => by simp at hb, fun _ => rfl⟩
  | b :: l, t, g, hm, h0 => by
    have hb := hm b (by simp)
    have hl : ∀ b ∈ l, mayBlk b = true := fun c hc => hm c (by simp [hc])
    obtain ⟨t1, g1, hn1, hl1, hp1, hg1⟩ : ∃ t1, Good t1 ∧ t.next ≤ t1.next ∧ lastF t1 o x = lastF t o x ∧ putErr t1 b = 0 ∧ clGo (b :: l) t = clGo l (putSt t1 b) := by
      by_cases hp : putErr t b = 0
      · exact ⟨t, g, Int.le_refl _, rfl, hp, by simp [clGo, hp]⟩
      · by_cases hs : slErr t = 0
        · have gs := good_seal g hs
          refine ⟨slSt t, gs, ?_, last_seal g hs o x, by rw [put_ok gs hb, seal_opn hs]; rfl, by simp [clGo, hp, hs]⟩
          obtain ⟨_, _, _, k, _, _, e⟩ := sl_facts hs
          rw [e]; show t.next ≤ t.next + 1; omega
        · simp only [clGo, if_neg hp, if_neg hs] at h0
          exact absurd h0 hs
    rw [hg1] at h0 ⊢
    obtain ⟨i1, i2⟩ := go_last o x l (putSt t1 b) (good_put g1 hb hp1) hl h0
    have hn2 : (putSt t1 b).next = t1.next := by rw [putSt_ok hp1]
    have hlp := last_put hp1 o x
    by_cases hin : ∃ c ∈ l, c.own = o ∧ c.idx = x
    · refine ⟨fun _ => by have := i1 hin; omega, fun h => absurd ?_ h⟩
      obtain ⟨c, hc, h⟩ := hin
      exact ⟨c, by simp [hc], h⟩
    · have e := i2 hin
      by_cases hk : b.own = o ∧ b.idx = x
      · rw [if_pos hk] at hlp
        refine ⟨fun _ => by rw [e, hlp]; exact hn1, fun h => absurd ⟨b, by simp, hk⟩ h⟩
      · rw [if_neg hk] at hlp
        refine ⟨fun ⟨c, hc, h⟩ => ?_, fun _ => by rw [e, hlp, hl1]⟩
        rcases List.mem_cons.1 hc with e1 | e1
        · rw [e1] at h; exact absurd h hk
        · exact absurd ⟨c, e1, h⟩ hin
theorem put_last {l : List Blk} {t : St} (g : Good t) (hm : ∀ b ∈ l, mayBlk b = true) (h0 : (clPut l t).2 = 0) (o x : Int) :
    ((∃ b ∈ l, b.own = o ∧ b.idx = x) → t.next ≤ (lastF (clPut l t).1 o x).q) ∧ ((¬ ∃ b ∈ l, b.own = o ∧ b.idx = x) → lastF (clPut l t).1 o x = lastF t o x) := by
  unfold clPut at h0 ⊢
  by_cases h1 : (clGo l t).2 = 0
  · rw [if_pos h1] at h0 ⊢
    have hg := go_last o x l t g hm h1
    have gg := ((clGo_facts l t g hm).2 h1).1
    unfold clEnd at h0 ⊢
    by_cases hl : l.length = 0
    · rw [if_pos hl]; exact hg
    · rw [if_neg hl] at h0 ⊢
      by_cases hs : slErr (clGo l t).1 = 0
      · rw [if_pos hs]
        simp only [last_seal gg hs]
        exact hg
      · rw [if_neg hs] at h0; exact absurd h0 hs
  · rw [if_neg h1] at h0; exact absurd h0 h1
theorem fr_zero {s : St} {k : Nat} {x : Sg} (g : Good s) (hx : s.segs[k]? = some x) (hf : freeB x = false) (h0 : (clPut (liveL s k) s).2 = 0) : frErr (clPut (liveL s k) s).1 k = 0 := by
  obtain ⟨_, h2⟩ := clPut_facts (liveL s k) s g live_may
  obtain ⟨gt, hsl⟩ := h2 h0
  have hxt := hsl k x hx hf
  have hpl := fun o i => put_last g (live_may (s := s) (slot := (k : Int))) h0 o i
  have hls : liveL s k = keepL s x x.blocks.length := by
    unfold liveL
    rw [if_pos (chk_t g), slot_at hx, hf]
    exact (keep_eq g x _ (Nat.le_refl _)).symm
  generalize (clPut (liveL s k) s).1 = t at *
  have hlt : liveL t k = keepL t x x.blocks.length := by
    unfold liveL
    rw [if_pos (chk_t gt), slot_at hxt, hf]
    exact (keep_eq gt x _ (Nat.le_refl _)).symm
  have he : keepL t x x.blocks.length = [] := by
    unfold keepL
    rw [List.map_eq_nil_iff, List.filter_eq_nil_iff]
    rintro ⟨b, j⟩ hp
    have hb : x.blocks[j]? = some b := by
      have := List.mem_zipIdx_iff_getElem?.1 hp
      rw [List.take_length] at this
      exact this
    simp only [keepB, decide_eq_true_eq]
    rintro ⟨h3, h4, h5⟩
    by_cases hin : ∃ c ∈ liveL s k, c.own = b.own ∧ c.idx = b.idx
    · have h6 := (hpl b.own b.idx).1 hin
      have := (g.seg k x hx hf).2
      omega
    · have h6 := (hpl b.own b.idx).2 hin
      rw [h6] at h3 h4 h5
      refine hin ⟨b, ?_, rfl, rfl⟩
      rw [hls]
      unfold keepL
      refine List.mem_map.2 ⟨(b, j), List.mem_filter.2 ⟨hp, ?_⟩, rfl⟩
      simp only [keepB, decide_eq_true_eq]
      exact ⟨h3, h4, h5⟩
  have hle : liveErr t k = 0 := by unfold liveErr; rw [if_pos (chk_t gt), slot_at hxt, hf]; rfl
  unfold frErr
  rw [if_pos hle, hlt, he]; rfl
theorem cl_eq (s : St) (slot seq : Int) : rcl s slot seq = cl s slot seq := by
  unfold rcl cl
  by_cases hu : liveErr s slot = 0
  · have hu' := hu
    rw [← used_eq] at hu'
    obtain ⟨hc, i, x, rfl, hx, hf⟩ := usedE_0 hu'
    have g := (rchk_iff s).1 hc
    rw [if_pos hu, if_pos hu, Int.toNat_natCast, hx]
    simp only
    split
    · unfold clFree
      by_cases h0 : (clPut (liveL s i) s).2 = 0
      · have hz := fr_zero g hx (by rw [← freeB'_eq]; exact hf) h0
        rw [if_pos h0, if_pos h0, hz]
        unfold frSt
        rw [if_pos hz, Int.toNat_natCast]
      · rw [if_neg h0, if_neg h0]
    · rfl
  · rw [if_neg hu, if_neg hu]
end Go.Proofs.Ytfoeddmbhmfjcaa
