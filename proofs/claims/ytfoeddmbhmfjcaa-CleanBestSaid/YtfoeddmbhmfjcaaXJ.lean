/- Merged texts: I0, I1, I2, K6, I3, B8. -/
import Derived.Test.YtfoeddmbhmfjcaaXI
import Derived.Test.YtfoeddmbhmfjcaaXH
import Derived.RangeFuncNested
import Derived.RangeFuncBound
import Derived.RangeFuncCalls
import Derived.RangeFuncLeaves
import Derived.Shelf.Abstract
import Derived.Shelf.RegionOpen
import Derived.WalkKit
import Derived.OwnWalkIn
import Derived.TacticsInMore
import Derived.LoopNIn
import Derived.LoopIn
import Derived.Test.YtfoeddmbhmfjcaaXD
import Derived.Test.YtfoeddmbhmfjcaaProg
set_option linter.unusedSimpArgs false
set_option linter.unusedVariables false
/- The iterator of clean.candidates: what it yields. -/
namespace Go.Proofs.Ytfoeddmbhmfjcaa
open Go.RowKit Go.Shelf
attribute [local go_sem] Oper.semAt_some
/-- which slots may be cleaned, with their scores: of the first k -/
def candL (s : St) : Nat → List (Int × Int)
  | 0 => []
  | k + 1 => match s.segs[k]? with
    | some x => if liveErr s k = 0 ∧ (liveL s k).length ≠ 8 then candL s k ++ [((k : Int), scV x.seq (liveL s k).length s.next)] else candL s k
    | none => candL s k
theorem candL_le (s : St) : ∀ k, (candL s k).length ≤ k
  | 0 => Nat.le_refl _
  | k + 1 => by
    have := candL_le s k
    rw [candL]
    split
    · split
      · simp; omega
      · omega
    · omega
theorem candL_yes {s : St} {k : Nat} {x : Sg} (hx : s.segs[k]? = some x) (h1 : liveErr s k = 0) (h2 : (liveL s k).length ≠ 8) : candL s (k + 1) = candL s k ++ [((k : Int), scV x.seq (liveL s k).length s.next)] := by
  rw [candL, hx]; simp only; rw [if_pos ⟨h1, h2⟩]
theorem candL_no {s : St} {k : Nat} {x : Sg} (hx : s.segs[k]? = some x) (h : ¬ (liveErr s k = 0 ∧ (liveL s k).length ≠ 8)) : candL s (k + 1) = candL s k := by
  rw [candL, hx]; simp only; rw [if_neg h]
theorem score_calls (seq live next : Int) (w : World) : Calls Try.prog 16 #[.int .i64 seq, .int .i64 live, .int .i64 next] w fun e w' =>
    e = .returned (.tuple #[.int .i64 (scV seq live next), .int .i64 (scE seq live next)]) ∧ Below w.heap.size w w' := by
  refine ((score_spec seq live next 0).2 (cx0 w) [.int .i64 seq, .int .i64 live, .int .i64 next] _ _ _ rfl (hr0 w) (fun id _ => .inl rfl) ⟨_, _, rfl, rfl, _, _, rfl, rfl, _, _, rfl, rfl, rfl⟩).mono ?_
  rintro e w' ⟨v, d, rfl, rfl, h1, h2⟩
  rw [VR] at h1
  obtain ⟨us, rfl, h1⟩ := h1
  simp only [VRt] at h1
  obtain ⟨u, us', rfl, h3, u2, us2, rfl, h4, rfl⟩ := h1
  rw [VR] at h3 h4
  subst h3; subst h4
  refine ⟨rfl, ⟨h2.grow.osE, h2.grow.tape, h2.grow.out, h2.grow.size, fun k hk => h2.grow.stay k hk ?_ (fun h => h.elim)⟩⟩
  rintro ⟨id, o, h3, _⟩
  simp [cx0] at h3
/-- what a round keeps -/
def KpB (n0 bc : Nat) (W W' : World) : Prop := Below n0 W W' ∧ W'.heap[bc]? = W.heap[bc]?
theorem KpB.trans {n0 bc : Nat} {A B C : World} (h : KpB n0 bc A B) (k : KpB n0 bc B C) : KpB n0 bc A C := ⟨h.1.trans k.1, k.2.trans h.2⟩
theorem KpB.of {n0 bc : Nat} {A B : World} (h : Below A.heap.size A B) (hn : n0 ≤ A.heap.size) (hb : bc < A.heap.size) : KpB n0 bc A B := ⟨h.mono hn, h.block bc hb⟩
theorem grown_of {w w' : World} (h : Below w.heap.size w w') (row : Option Nat) : w.grownBy w' row := ⟨h.os, h.tape, h.output, h.size, fun k hk _ => h.block k hk⟩
abbrev encC (x : Int × Int) : Array Value := #[.int .i64 x.1, .int .i64 x.2]
set_option maxRecDepth 100000 in
set_option maxHeartbeats 4000000 in
theorem cand_in (l bc n0 : Nat) (s : St) (A0 A1 A2 : Option Addr) (c0 c1 c2 : Nat) (J Jx : List (Int × Int) → World → Prop) (W : World) (hJ : AbidesFrom W.heap.size J) (hJx : AbidesFrom W.heap.size Jx)
    (hY : ∀ pre x W1, J pre W1 → pre.length < s.segs.length → (∃ k : Nat, x.1 = (k : Int) ∧ k < s.segs.length) → YieldAt Fence.wide 2 Try.prog l (encC x) W1 fun e W' => (e = .returned (.bool true) ∧ J (pre ++ [x]) W' ∧ KpB n0 bc W1 W') ∨ (e = .returned (.bool false) ∧ Jx (pre ++ [x]) W'))
    (hbc : W.heap[bc]? = some (.cells #[.slice A0 s.segs.length c0, .slice A1 s.held.length c1, .slice A2 s.opn.length c2, .int .i64 s.next] 36 (0, 0))) (hn0 : n0 ≤ W.heap.size)
    (h0 : RdS tSg 32 W (fun b => b < n0) A0 c0 s.segs) (h2 : RdS tBlk 40 W (fun b => b < n0) A2 c2 s.opn) (hj : J [] W) :
    CallsIn Fence.wide 3 Try.prog 81 #[.func (.yield l) #[] #[], .pointer (some ⟨bc, 0, none⟩)] W fun e W' => (∃ v, e = .returned v) ∧
      ((∃ ys, ys = candL s s.segs.length ∧ J ys W') ∨ (∃ pre, True ∧ Jx pre W')) := by
  have hlen : s.segs.length ≤ 9223372036854775807 := by have := h0.2.1; unfold reachB at this; omega
  have H0 := Lib.hid h0
  have H2 := Lib.hid h2
  have HB := Lib.hid hbc
  have hbl := lt_of_heap hbc
  have HY := Lib.hid hY
  have HJ := Lib.hid hJ
  have Hj := Lib.hid hj
  have y0 := cell_of HB.out 0 rfl
  clear h0 h2 hbc hY hJ hJx hj
  refine callsIn_of_wp Try.func81 rfl trivial ?_ rfl
  simp only [Try.ntmps81, List.size_toArray, List.length_cons, List.length_nil, Nat.reduceAdd, Nat.reduceSub, Array.replicate_succ, Array.replicate_zero, List.push_toArray, List.append_toArray, List.nil_append, List.cons_append]
  gi_wp2
  clear y0
  gi_loopw [12] (fun i wr => ∃ k : Nat, k ≤ s.segs.length ∧ i = .int .i64 k ∧ Hid (J (candL s k) wr) ∧ Hid (KpB n0 bc W wr) ∧ Hid (W.heap.size ≤ wr.heap.size)) (fun i _ => s.segs.length - (intOf i).toNat)
  case atStart => exact ⟨0, Nat.zero_le _, rfl, Hj, ⟨Below.refl _ _, rfl⟩, Nat.le_refl _⟩
  case round =>
    obtain ⟨k, hk, rfl, HJs, HK, Hsz⟩ := hrel
    by_cases hlt : k < s.segs.length
    · obtain ⟨x, hx⟩ : ∃ x, s.segs[k]? = some x := ⟨_, List.getElem?_eq_getElem hlt⟩
      have HX := Lib.hid hx
      have hbw := Lib.hid (HK.out.2.trans HB.out)
      have hwr : n0 ≤ wr.heap.size := Nat.le_trans hn0 Hsz.out
      have hbc2 : bc < wr.heap.size := lt_of_heap hbw.out
      have H0w := Lib.hid (H0.out.belowAt (fun k h => h) HK.out.1)
      have H2w := Lib.hid (H2.out.belowAt (fun k h => h) HK.out.1)
      obtain ⟨b, off, Ad, cd, rfl, hPb, z0, z1, hd, xw⟩ := H0w.out.sgAt hx
      have hbb := lt_of_cell z0
      have y0 := cell_of hbw.out 0 rfl
      have y1 := cell_of hbw.out 1 rfl
      have y2 := cell_of hbw.out 2 rfl
      have y3 := cell_of hbw.out 3 rfl
      clear hx hd
      gi_wp2_with fail
      have hbx := Lib.hid (heap_alloc_new wr (.cells #[.int .i64 x.seq, .slice Ad x.blocks.length cd] 62))
      have hBa : Hid (Below wr.heap.size wr (wr.alloc (.cells #[.int .i64 x.seq, .slice Ad x.blocks.length cd] 62))) := (Below.refl _ _).alloc (Nat.le_refl _) _
      generalize wr.alloc (.cells #[.int .i64 x.seq, .slice Ad x.blocks.length cd] 62) = wa at *
      clear y0 y1 y2 y3 z0 z1
      refine ⟨trivial, (callsIn_wide.2 (live_calls s k (some ⟨b, off, none⟩) A1 A2 c0 c1 c2 wa (H0w.out.below hBa.out) (H2w.out.below hBa.out))).mono ?_⟩
      rintro e w1 ⟨v, rfl, hrow, hb1⟩
      obtain ⟨A5, k5, rfl, _⟩ := Ty.Row_slice hrow.2
      clear hrow
      have hsa := hBa.out.size
      have HB1 := Lib.hid (hBa.out.trans (hb1.mono hsa))
      have hbx1 := Lib.hid (heap_below hb1 hbx.out)
      have hbw1 := Lib.hid (heap_below HB1.out hbw.out)
      clear hb1
      have x0 := cell_of hbx1.out 0 rfl
      have y3 := cell_of hbw1.out 3 rfl
      have goon : ∀ (w2 : World), Below wr.heap.size wr w2 → ¬ (liveErr s k = 0 ∧ (liveL s k).length ≠ 8) → J (candL s (k + 1)) w2 ∧ KpB n0 bc W w2 ∧ W.heap.size ≤ w2.heap.size := by
        intro w2 hb2 hn
        refine ⟨?_, HK.out.trans (KpB.of hb2 hwr hbc2), Nat.le_trans Hsz.out hb2.size⟩
        rw [candL_no HX.out hn]
        exact HJ.out _ _ _ none HJs.out (grown_of hb2 none) (fun r e => by cases e)
      have GO := Lib.hid goon
      clear goon
      by_cases he : liveErr s k = 0
      · have e1 : (liveErr s k != 0) = false := by simp [he]
        by_cases h8 : (liveL s k).length = 8
        · have e2 : (((liveL s k).length : Int) == 8) = true := by simp; omega
          gi_wp2_with fail
          go_roundw
          case rel =>
            obtain ⟨g1, g2, g3⟩ := GO.out w1 HB1.out (fun h => h.2 h8)
            exact ⟨k + 1, by omega, by simp, g1, g2, g3⟩
          case measure => simp [intOf]; omega
        · have e2 : (((liveL s k).length : Int) == 8) = false := by simp; omega
          gi_wp2_with fail
          refine ⟨trivial, (callsIn_wide.2 (score_calls x.seq (liveL s k).length s.next w1)).mono ?_⟩
          rintro e w2 ⟨rfl, hb2⟩
          have HB2 := Lib.hid (HB1.out.trans (hb2.mono HB1.out.size))
          have HE := Lib.hid he
          have H8 := Lib.hid h8
          clear hb2 x0 y3 hbx1 he h8
          have hj2 : J (candL s k) w2 := HJ.out _ _ _ none HJs.out (grown_of HB2.out none) (fun r e => by cases e)
          obtain ⟨fn, tmps, assign, body, hy, hR⟩ := HY.out _ ((k : Int), scV x.seq (liveL s k).length s.next) w2 hj2 (Nat.lt_of_le_of_lt (candL_le s k) hlt) ⟨k, rfl, hlt⟩
          dsimp only [encC] at hy
          clear hj2
          gi_wp2
          refine hR.mono ?_
          rintro e W3 (⟨rfl, hJ3, hk3⟩ | ⟨rfl, hJx3⟩)
          · have g1 := Lib.hid hJ3
            have g2 := Lib.hid hk3
            clear hJ3 hk3
            gi_wp2
            go_roundw
            case rel =>
              refine ⟨k + 1, by omega, by simp, ?_, (HK.out.trans (KpB.of HB2.out hwr hbc2)).trans g2.out, ?_⟩
              · rw [candL_yes HX.out HE.out H8.out]; exact g1.out
              · exact Nat.le_trans Hsz.out (Nat.le_trans HB2.out.size g2.out.1.size)
            case measure => simp [intOf]; omega
          · gi_wp2
            refine bodyPost_ret (results_none rfl _ _ _) rfl ?_
            exact ⟨⟨_, rfl⟩, .inr ⟨_, trivial, hJx3⟩⟩
      · have e1 : (liveErr s k != 0) = true := by simp [he]
        gi_wp2_with fail
        go_roundw
        case rel =>
          obtain ⟨g1, g2, g3⟩ := GO.out w1 HB1.out (fun h => he h.1)
          exact ⟨k + 1, by omega, by simp, g1, g2, g3⟩
        case measure => simp [intOf]; omega
    · obtain rfl : k = s.segs.length := by omega
      gi_wp2
      go_end0
      exact ⟨⟨_, rfl⟩, .inl ⟨_, rfl, HJs⟩⟩
/-- a slot that is, and a number -/
abbrev Cand (s : St) := { x : Int × Int // ∃ k : Nat, x.1 = (k : Int) ∧ k < s.segs.length }
theorem cand_stops (bc n0 : Nat) (s : St) (A0 A1 A2 : Option Addr) (c0 c1 c2 : Nat) (w : World)
    (hbc : w.heap[bc]? = some (.cells #[.slice A0 s.segs.length c0, .slice A1 s.held.length c1, .slice A2 s.opn.length c2, .int .i64 s.next] 36 (0, 0))) (hn0 : n0 ≤ w.heap.size)
    (h0 : RdS tSg 32 w (fun b => b < n0) A0 c0 s.segs) (h2 : RdS tBlk 40 w (fun b => b < n0) A2 c2 s.opn) :
    SeqStopsK Fence.wide 3 Try.prog 81 #[.pointer (some ⟨bc, 0, none⟩)] (fun x : Cand s => encC x.1) (KpB n0 bc) (fun xs => xs.map (·.1) = candL s s.segs.length) (fun _ => True) s.segs.length w := by
  intro l J Jx W hW hJ hJx hY hj
  refine (cand_in l bc n0 s A0 A1 A2 c0 c1 c2 (fun xs W => ∃ ys : List (Cand s), ys.map (·.1) = xs ∧ J ys W) (fun xs W => ∃ ys : List (Cand s), ys.map (·.1) = xs ∧ Jx ys W) W ?_ ?_ ?_ (heap_below hW hbc) (Nat.le_trans hn0 hW.size)
    (h0.belowAt (fun k h => h) (hW.mono hn0)) (h2.belowAt (fun k h => h) (hW.mono hn0)) ⟨[], rfl, hj⟩).mono ?_
  · rintro xs A B row ⟨ys, e, h⟩ hg hr
    exact ⟨ys, e, hJ ys A B row h hg hr⟩
  · rintro xs A B row ⟨ys, e, h⟩ hg hr
    exact ⟨ys, e, hJx ys A B row h hg hr⟩
  · rintro pre x W1 ⟨ys, rfl, h⟩ hl hx
    obtain ⟨fn, tmps, assign, body, h3, h4⟩ := hY ys ⟨x, hx⟩ W1 h (by simpa using hl)
    refine ⟨fn, tmps, assign, body, h3, h4.mono ?_⟩
    rintro e W' (⟨rfl, h5, h6⟩ | ⟨rfl, h5⟩)
    · exact .inl ⟨rfl, ⟨_, by simp, h5⟩, h6⟩
    · exact .inr ⟨rfl, ⟨_, by simp, h5⟩⟩
  · rintro e W' ⟨he, ⟨ys, rfl, zs, e1, h⟩ | ⟨pre, _, zs, e1, h⟩⟩
    · exact ⟨he, .inl ⟨zs, e1, h⟩⟩
    · exact ⟨he, .inr ⟨zs, trivial, h⟩⟩
end Go.Proofs.Ytfoeddmbhmfjcaa
/- clean.Victim: what it tells. -/
namespace Go.Proofs.Ytfoeddmbhmfjcaa
open Go.RowKit Go.Shelf
attribute [local go_sem] Oper.semAt_some
theorem cell_alloc_l {W : World} {a : Addr} {v : Value} (o : Obj) (h : W.cell? a = some v) : (W.alloc o).cell? a = some v := cell_kept h (World.grownBy_alloc W o none) (fun r e => by cases e)
/-- slot, seq, score of the best so far -/
def vicStep (s : St) (a : Int × Int × Int) (x : Int × Int) : Int × Int × Int := if a.2.1 = 0 ∨ a.2.2 < x.2 then (x.1, ((s.segs[x.1.toNat]?).map (·.seq)).getD 0, x.2) else a
def vicF (s : St) (l : List (Int × Int)) : Int × Int × Int := l.foldl (vicStep s) (0, 0, 0)
theorem vicF_snoc (s : St) (l : List (Int × Int)) (x : Int × Int) : vicF s (l ++ [x]) = vicStep s (vicF s l) x := by simp [vicF]
def vicR (s : St) : Int × Int × Int := if chk s = true then vicF s (candL s s.segs.length) else (0, 0, 0)
def vicE (s : St) : Int := if chk s = true then (if (vicR s).2.1 = 0 then 71 else 0) else 9
set_option maxRecDepth 100000 in
theorem cands_calls (w : World) (cs : Array Value) : Calls Try.prog 68 #[.agg cs] w fun e w' =>
    e = .returned (.func (.func 81) #[] #[.pointer (some ⟨w.heap.size, 0, none⟩)]) ∧ w' = w.alloc (.cells cs 36) := by
  go_enter Try.func68, Try.ntmps68
  go_wp2
  refine bodyPost_ret (results_tmp rfl _ _ _) rfl ?_
  exact ⟨rfl, rfl⟩
set_option maxRecDepth 100000 in
set_option maxHeartbeats 4000000 in
theorem victim_in {P : Nat → Prop} (s : St) (A0 A1 A2 : Option Addr) (c0 c1 c2 : Nat) (w : World) (h0 : RdS tSg 32 w P A0 c0 s.segs) (h2 : RdS tBlk 40 w P A2 c2 s.opn) :
    CallsIn Fence.wide 4 Try.prog 36 #[.agg #[.slice A0 s.segs.length c0, .slice A1 s.held.length c1, .slice A2 s.opn.length c2, .int .i64 s.next]] w fun e w' =>
      e = .returned (.tuple #[.agg #[.int .i64 (vicR s).1, .int .i64 (vicR s).2.1], .int .i64 (vicE s)]) ∧ Below w.heap.size w w' := by
  have H0 := Lib.hid (h0.lt.mono (Q := fun k => k < w.heap.size) (fun k h _ => h.2))
  have H2 := Lib.hid (h2.lt.mono (Q := fun k => k < w.heap.size) (fun k h _ => h.2))
  clear h0 h2
  refine callsIn_of_wp_marks Try.func36 rfl trivial ?_ rfl
  simp only [Try.ntmps36, List.size_toArray, List.length_cons, List.length_nil, Nat.reduceAdd, Nat.reduceSub, Array.replicate_succ, Array.replicate_zero, List.push_toArray, List.append_toArray, List.nil_append, List.cons_append]
  gi_wp2_with fail
  have hsz : ((w.alloc (.cells #[.slice A0 s.segs.length c0, .slice A1 s.held.length c1, .slice A2 s.opn.length c2, .int .i64 s.next] 36)).alloc (.cells #[.int .i64 0, .int .i64 0] 66)).heap.size = w.heap.size + 2 := by simp
  have hbx : Hid (((w.alloc (.cells #[.slice A0 s.segs.length c0, .slice A1 s.held.length c1, .slice A2 s.opn.length c2, .int .i64 s.next] 36)).alloc (.cells #[.int .i64 0, .int .i64 0] 66)).heap[w.heap.size]? = some (.cells #[.slice A0 s.segs.length c0, .slice A1 s.held.length c1, .slice A2 s.opn.length c2, .int .i64 s.next] 36 (0, 0))) :=
    (Below.heap_alloc _ _ _ (by simp)).trans (heap_alloc_new w _)
  have hbr : Hid (((w.alloc (.cells #[.slice A0 s.segs.length c0, .slice A1 s.held.length c1, .slice A2 s.opn.length c2, .int .i64 s.next] 36)).alloc (.cells #[.int .i64 0, .int .i64 0] 66)).heap[w.heap.size + 1]? = some (.cells #[.int .i64 0, .int .i64 0] 66 (0, 0))) := by
    have := heap_alloc_new (w.alloc (.cells #[.slice A0 s.segs.length c0, .slice A1 s.held.length c1, .slice A2 s.opn.length c2, .int .i64 s.next] 36)) (.cells #[.int .i64 0, .int .i64 0] 66)
    rwa [World.size_alloc] at this
  have hB : Hid (Below w.heap.size w ((w.alloc (.cells #[.slice A0 s.segs.length c0, .slice A1 s.held.length c1, .slice A2 s.opn.length c2, .int .i64 s.next] 36)).alloc (.cells #[.int .i64 0, .int .i64 0] 66))) := ((Below.refl _ _).alloc (Nat.le_refl _) _).alloc (by simp) _
  generalize (w.alloc (.cells #[.slice A0 s.segs.length c0, .slice A1 s.held.length c1, .slice A2 s.opn.length c2, .int .i64 s.next] 36)).alloc (.cells #[.int .i64 0, .int .i64 0] 66) = wa at *
  have HSZ := Lib.hid hsz
  clear hsz
  refine ⟨trivial, (callsIn_wide.2 (check_calls s A0 A1 A2 c0 c1 c2 wa (H0.out.belowAt (fun k h => h) hB.out) (H2.out.belowAt (fun k h => h) hB.out))).mono ?_⟩
  rintro e w1 ⟨rfl, hb1⟩
  have hs1 := Lib.hid hb1.size
  have hbx1 := Lib.hid (heap_below hb1 hbx.out)
  have hbr1 := Lib.hid (heap_below hb1 hbr.out)
  have HB1 := Lib.hid (hB.out.trans (hb1.mono (by have := HSZ.out; omega)))
  clear hbx hbr hB hb1
  have p0 := cell_of hbr1.out 0 rfl
  have p1 := cell_of hbr1.out 1 rfl
  have f0 := frozen_of hbr1.out 0
  have f1 := frozen_of hbr1.out 1
  cases hchk : chk s with
  | false =>
    have hc := Lib.hid hchk
    clear hchk
    have e9 : errOf false = 9 := rfl
    have e10 : (errOf false != 0) = true := rfl
    gi_wp2_with fail
    refine ⟨_, results_row_tmp _ rfl _ (w.heap.size + 1) 66 #[.int .i64 0, .int .i64 0] (0, 0) _ rfl ?hg Try.underlying66 rfl (by kernel_rfl), ?_⟩
    case hg => exact Ty.setCell_heap (Ty.setCell_heap hbr1.out 0 _) 1 _
    rw [vicR, vicE, vicR, hc.out]
    exact ⟨rfl, (HB1.out.setCell (p := ⟨w.heap.size + 1, 0, none⟩) (by simp) _).setCell (p := ⟨w.heap.size + 1, 1, none⟩) (by simp) _⟩
  | true =>
    have hc := Lib.hid hchk
    clear hchk
    have e9 : errOf true = 0 := rfl
    have e10 : (errOf true != 0) = false := rfl
    have x0 := cell_of hbx1.out 0 rfl
    have x1 := cell_of hbx1.out 1 rfl
    have x2 := cell_of hbx1.out 2 rfl
    have x3 := cell_of hbx1.out 3 rfl
    have z0 := cell_alloc_l (.cells #[.int .i64 0] 3) (cell_alloc_l (.cells #[.int .i64 0, .int .i64 0] 66) x0)
    have z1 := cell_alloc_l (.cells #[.int .i64 0] 3) (cell_alloc_l (.cells #[.int .i64 0, .int .i64 0] 66) x1)
    have z2 := cell_alloc_l (.cells #[.int .i64 0] 3) (cell_alloc_l (.cells #[.int .i64 0, .int .i64 0] 66) x2)
    have z3 := cell_alloc_l (.cells #[.int .i64 0] 3) (cell_alloc_l (.cells #[.int .i64 0, .int .i64 0] 66) x3)
    gi_wp2_with fail
    refine ⟨trivial, (callsIn_wide.2 (cands_calls _ _)).mono ?_⟩
    rintro e w5 ⟨rfl, hw5⟩
    have n5 := Lib.hid (show w5.heap.size = w1.heap.size + 3 by rw [hw5]; simp only [World.size_alloc])
    simp only [World.size_alloc]
    have q1 : Hid (w5.heap[w1.heap.size]? = some (.cells #[.int .i64 0, .int .i64 0] 66 (0, 0))) := by
      rw [hw5]; exact (Below.heap_alloc _ _ _ (by simp only [World.size_alloc]; omega)).trans ((Below.heap_alloc _ _ _ (by simp)).trans (heap_alloc_new w1 _))
    have q2 : Hid (w5.heap[w1.heap.size + 1]? = some (.cells #[.int .i64 0] 3 (0, 0))) := by
      rw [hw5]
      have := heap_alloc_new (w1.alloc (.cells #[.int .i64 0, .int .i64 0] 66)) (.cells #[.int .i64 0] 3)
      rw [World.size_alloc] at this
      exact (Below.heap_alloc _ _ _ (by simp)).trans this
    have q3 : Hid (w5.heap[w1.heap.size + 2]? = some (.cells #[.slice A0 s.segs.length c0, .slice A1 s.held.length c1, .slice A2 s.opn.length c2, .int .i64 s.next] 36 (0, 0))) := by
      rw [hw5]
      have := heap_alloc_new ((w1.alloc (.cells #[.int .i64 0, .int .i64 0] 66)).alloc (.cells #[.int .i64 0] 3)) (.cells #[.slice A0 s.segs.length c0, .slice A1 s.held.length c1, .slice A2 s.opn.length c2, .int .i64 s.next] 36)
      rw [World.size_alloc, World.size_alloc] at this
      exact this
    have hb5 : Hid (Below w1.heap.size w1 w5) := by rw [hw5]; exact (((Below.refl _ _).alloc (Nat.le_refl _) _).alloc (by simp) _).alloc (by simp; omega) _
    have q4 := Lib.hid (heap_below hb5.out hbx1.out)
    have q5 := Lib.hid (heap_below hb5.out hbr1.out)
    have HB5 := Lib.hid (HB1.out.trans (hb5.out.mono (by have := HSZ.out; have := hs1.out; omega)))
    have hlw : w.heap.size + 2 ≤ w1.heap.size := by have := HSZ.out; have := hs1.out; omega
    have hlw5 : w.heap.size ≤ w5.heap.size := by have := n5.out; omega
    clear hw5 x0 x1 x2 x3 z0 z1 z2 z3 p0 p1 f0 f1
    gi_wp2_with fail
    have no : ∀ {k : Nat} {A : World} {row : Option Nat}, k < w5.heap.size → (∀ r, row = some r → w5.heap.size ≤ r ∧ ∃ o : Obj, A.heap[r]? = some o ∧ o.isCells = false) → some k ≠ row := fun hk hr e => by
      have := (hr _ e.symm).1; omega
    refine wpIn_rangeFunc_ownF rfl (by decide) (gf := 81) (lb := #[.pointer (some ⟨w1.heap.size + 2, 0, none⟩)]) rfl trivial (enters_of Try.func81 (by kernel_rfl) rfl)
      (cand_stops (w1.heap.size + 2) w.heap.size s A0 A1 A2 c0 c1 c2 w5 q3.out hlw5 (H0.out.belowAt (fun k h => h) HB5.out) (H2.out.belowAt (fun k h => h) HB5.out))
      (fun h k => KpB.trans h k) (fun W l o o' hl h h1 h2 => ⟨belowK_b (w := w5) hlw5 W l o o' hl h h1 h2, World.putObj_heap_other (by have := n5.out; omega)⟩) (Below.refl _ _) (fun _ => rfl)
      (fun pre W => (Hid (W.heap[w1.heap.size]? = some (.cells #[.int .i64 (vicF s (pre.map (·.1))).1, .int .i64 (vicF s (pre.map (·.1))).2.1] 66 (0, 0))) ∧ Hid (W.heap[w1.heap.size + 1]? = some (.cells #[.int .i64 (vicF s (pre.map (·.1))).2.2] 3 (0, 0))) ∧
        Hid (W.heap[w.heap.size]? = some (.cells #[.slice A0 s.segs.length c0, .slice A1 s.held.length c1, .slice A2 s.opn.length c2, .int .i64 s.next] 36 (0, 0))) ∧ Hid (W.heap[w.heap.size + 1]? = some (.cells #[.int .i64 0, .int .i64 0] 66 (0, 0)))) ∧ Hid (Below w.heap.size w W) ∧ Hid (W.heap.size ≥ w5.heap.size))
      (fun _ _ _ => False)
      (fun pre A B row ⟨⟨i1, i2, i3, i4⟩, i5, i6⟩ hg hr => ⟨⟨(hg.block _ (lt_of_heap i1.out) (no (by have := n5.out; omega) hr)).trans i1.out, (hg.block _ (lt_of_heap i2.out) (no (by have := n5.out; omega) hr)).trans i2.out,
        (hg.block _ (lt_of_heap i3.out) (no (by have := n5.out; omega) hr)).trans i3.out, (hg.block _ (lt_of_heap i4.out) (no (by have := n5.out; omega) hr)).trans i4.out⟩, i5.out.grown hg i5.out.size (fun k e => by have := (hr k e).1; omega), Nat.le_trans i6.out hg.size⟩)
      (fun _ _ _ _ _ hs _ _ => hs)
      ⟨⟨q1, q2, q4, q5⟩, HB5, Nat.le_refl _⟩
      (fun x => { tmps := #[.agg #[.slice A0 s.segs.length c0, .slice A1 s.held.length c1, .slice A2 s.opn.length c2, .int .i64 s.next], .pointer (some ⟨w.heap.size, 0, none⟩), .pointer (some ⟨w.heap.size + 1, 0, none⟩), .int .i64 0, .int .i64 0,
        .pointer (some ⟨w1.heap.size, 0, none⟩), .pointer (some ⟨w1.heap.size + 1, 0, none⟩), .int .i64 x.1.1, .int .i64 x.1.2, .agg #[.slice A0 s.segs.length c0, .slice A1 s.held.length c1, .slice A2 s.opn.length c2, .int .i64 s.next], .int .i64 0, .int .i64 0, .bool false, undef, undef,
        .agg #[.int .i64 0, .int .i64 0], .agg #[.slice A0 s.segs.length c0, .slice A1 s.held.length c1, .slice A2 s.opn.length c2, .int .i64 s.next], .func (.func 81) #[] #[.pointer (some ⟨w1.heap.size + 2, 0, none⟩)], .int .i64 x.1.1, .int .i64 x.1.2,
        undef, undef, undef, undef, undef, undef, undef, undef, undef, undef, undef, undef, undef, undef, undef, undef, undef, undef, undef, undef, undef, undef], defers := [] }) ?assign ?body ?done ?stop
    case assign =>
      intro l x W K hK
      gi_wp2
      exact hK
    case body =>
      rintro l pre ⟨⟨i, v⟩, k, hik, hk⟩ W ⟨⟨i1, i2, i3, i4⟩, i5, i6⟩ _
      simp only at hik
      subst hik
      obtain ⟨x, hx⟩ : ∃ x, s.segs[k]? = some x := ⟨_, List.getElem?_eq_getElem hk⟩
      have HX := Lib.hid hx
      obtain ⟨b, off, Ad, cd, rfl, hPb, z0, z1, hd, xw⟩ := (H0.out.belowAt (fun k h => h) i5.out).sgAt hx
      have y0 := cell_of i1.out 0 rfl
      have y1 := cell_of i1.out 1 rfl
      have g0 := frozen_of i1.out 0
      have g1 := frozen_of i1.out 1
      have u0 := cell_of i2.out 0 rfl
      have h0 := frozen_of i2.out 0
      have v0 := cell_of i3.out 0 rfl
      have hlenp : s.segs.length ≤ 9223372036854775807 := by have := H0.out.2.1; unfold reachB at this; omega
      have n6 : w5.heap.size ≤ W.heap.size := i6.out
      clear hx hd
      have hsn := Lib.hid (show vicF s ((pre ++ [(⟨((k : Int), v), k, rfl, hk⟩ : Cand s)]).map (·.1)) = vicStep s (vicF s (pre.map (·.1))) ((k : Int), v) by rw [List.map_append]; exact vicF_snoc _ _ _)
      generalize hr : vicF s (pre.map (·.1)) = r at *
      have HR := Lib.hid hr
      clear hr
      obtain ⟨r1, r2, r3⟩ := r
      dsimp only at *
      have hsq : (s.segs[k]?).map (·.seq) = some x.seq := by rw [HX.out]; rfl
      have HS := Lib.hid hsq
      clear hsq
      have fin : r2 = 0 ∨ r3 < v → ∀ W', W' = ((W.setCell ⟨w1.heap.size, 0, none⟩ (.int .i64 k)).setCell ⟨w1.heap.size, 1, none⟩ (.int .i64 x.seq)).setCell ⟨w1.heap.size + 1, 0, none⟩ (.int .i64 v) →
          KeepsOthers W W' ∧ KpB w.heap.size (w1.heap.size + 2) W W' ∧ (Hid (W'.heap[w1.heap.size]? = some (.cells #[.int .i64 (vicF s ((pre ++ [(⟨((k : Int), v), k, rfl, hk⟩ : Cand s)]).map (·.1))).1, .int .i64 (vicF s ((pre ++ [(⟨((k : Int), v), k, rfl, hk⟩ : Cand s)]).map (·.1))).2.1] 66 (0, 0))) ∧
            Hid (W'.heap[w1.heap.size + 1]? = some (.cells #[.int .i64 (vicF s ((pre ++ [(⟨((k : Int), v), k, rfl, hk⟩ : Cand s)]).map (·.1))).2.2] 3 (0, 0))) ∧
            Hid (W'.heap[w.heap.size]? = some (.cells #[.slice (some ⟨b, off, none⟩) s.segs.length c0, .slice A1 s.held.length c1, .slice A2 s.opn.length c2, .int .i64 s.next] 36 (0, 0))) ∧ Hid (W'.heap[w.heap.size + 1]? = some (.cells #[.int .i64 0, .int .i64 0] 66 (0, 0)))) ∧ Hid (Below w.heap.size w W') ∧ Hid (W'.heap.size ≥ w5.heap.size) := by
        rintro hc W' rfl
        have hstep : vicStep s (r1, r2, r3) ((k : Int), v) = ((k : Int), x.seq, v) := by
          unfold vicStep
          rw [if_pos hc]
          simp only [Int.toNat_natCast, HS.out, Option.getD_some]
        rw [hsn.out, hstep]
        have oth : ∀ q, q ≠ w1.heap.size → q ≠ w1.heap.size + 1 → (((W.setCell ⟨w1.heap.size, 0, none⟩ (.int .i64 k)).setCell ⟨w1.heap.size, 1, none⟩ (.int .i64 x.seq)).setCell ⟨w1.heap.size + 1, 0, none⟩ (.int .i64 v)).heap[q]? = W.heap[q]? := fun q h1 h2 =>
          (Below.heap_setCell _ _ _ _ h2).trans ((Below.heap_setCell _ _ _ _ h1).trans (Below.heap_setCell _ _ _ _ h1))
        have low : ∀ n0, n0 ≤ w1.heap.size → ∀ {Z : World}, Below n0 Z W → Below n0 Z (((W.setCell ⟨w1.heap.size, 0, none⟩ (.int .i64 k)).setCell ⟨w1.heap.size, 1, none⟩ (.int .i64 x.seq)).setCell ⟨w1.heap.size + 1, 0, none⟩ (.int .i64 v)) := fun n0 h Z hz =>
          ((hz.setCell (p := ⟨w1.heap.size, 0, none⟩) h _).setCell (p := ⟨w1.heap.size, 1, none⟩) h _).setCell (p := ⟨w1.heap.size + 1, 0, none⟩) (by show n0 ≤ w1.heap.size + 1; omega) _
        refine ⟨(KeepsOthers.setCell _ _ _).trans ((KeepsOthers.setCell _ _ _).trans (KeepsOthers.setCell _ _ _)), ⟨low _ (by omega) (Below.refl _ _), oth _ (by omega) (by omega)⟩, ⟨?_, ?_, (oth _ (by omega) (by omega)).trans i3.out, (oth _ (by omega) (by omega)).trans i4.out⟩, low _ (by omega) i5.out, (show w5.heap.size ≤ _ by simpa using n6)⟩
        · exact (Below.heap_setCell _ _ _ _ (by show w1.heap.size ≠ w1.heap.size + 1; omega)).trans (Ty.setCell_heap (Ty.setCell_heap i1.out 0 _) 1 _)
        · exact Ty.setCell_heap ((Below.heap_setCell _ _ _ _ (by show w1.heap.size + 1 ≠ w1.heap.size; omega)).trans ((Below.heap_setCell _ _ _ _ (by show w1.heap.size + 1 ≠ w1.heap.size; omega)).trans i2.out)) 0 _
      have FIN := Lib.hid fin
      clear fin
      by_cases hq : r2 = 0
      · have e1 : (r2 == 0) = true := by simpa using hq
        have HQ := Lib.hid hq
        clear hq
        gi_wp2_with fail
        exact FIN.out (.inl HQ.out) _ rfl
      · have e1 : (r2 == 0) = false := by simpa using hq
        by_cases hv : r3 < v
        · have HQ := Lib.hid hv
          have e2 : decide (r3 < v) = true := by simpa using hv
          gi_wp2_with fail
          exact FIN.out (.inr HQ.out) _ rfl
        · have e2 : decide (r3 < v) = false := by simpa using hv
          have hstep := Lib.hid (show vicStep s (r1, r2, r3) ((k : Int), v) = (r1, r2, r3) by unfold vicStep; rw [if_neg (by rintro (h | h); exact hq h; exact hv h)])
          gi_wp2_with fail
          refine ⟨KeepsOthers.refl _, ⟨Below.refl _ _, rfl⟩, ⟨?_, ?_, i3, i4⟩, i5, i6⟩
          · rw [hsn.out, hstep.out]; exact i1
          · rw [hsn.out, hstep.out]; exact i2
    case done =>
      rintro D xs W hD hxs ⟨⟨i1, i2, i3, i4⟩, i5, i6⟩ hK
      rw [hxs] at i1 i2
      have y0 := cell_of i1.out 0 rfl
      have y1 := cell_of i1.out 1 rfl
      have p0 := cell_of i4.out 0 rfl
      have p1 := cell_of i4.out 1 rfl
      have f0 := frozen_of i4.out 0
      have f1 := frozen_of i4.out 1
      have HK := Lib.hid hK
      clear hK hxs
      have hvr : Hid (vicR s = vicF s (candL s s.segs.length)) := by show vicR s = _; rw [vicR, if_pos hc.out]
      have hve : Hid (vicE s = if (vicR s).2.1 = 0 then 71 else 0) := by show vicE s = _; rw [vicE, if_pos hc.out]
      generalize hr : vicF s (candL s s.segs.length) = r at *
      clear hr
      obtain ⟨r1, r2, r3⟩ := r
      have HK2 := Lib.hid (show ∀ v0 v1, ((W.setCell ⟨w.heap.size + 1, 0, none⟩ v0).setCell ⟨w.heap.size + 1, 1, none⟩ v1).heap[D]? = some (.deferred (some [])) from fun v0 v1 =>
        (Below.heap_setCell _ _ _ _ (by show D ≠ w.heap.size + 1; have := n5.out; omega)).trans ((Below.heap_setCell _ _ _ _ (by show D ≠ w.heap.size + 1; have := n5.out; omega)).trans HK.out))
      have HR2 := Lib.hid (show ∀ v0 v1, ((W.setCell ⟨w.heap.size + 1, 0, none⟩ v0).setCell ⟨w.heap.size + 1, 1, none⟩ v1).heap[w.heap.size + 1]? = some (.cells #[v0, v1] 66 (0, 0)) from fun v0 v1 => Ty.setCell_heap (Ty.setCell_heap i4.out 0 v0) 1 v1)
      have HB7 := Lib.hid (show ∀ v0 v1, Below w.heap.size w ((W.setCell ⟨w.heap.size + 1, 0, none⟩ v0).setCell ⟨w.heap.size + 1, 1, none⟩ v1) from fun v0 v1 =>
        (i5.out.setCell (p := ⟨w.heap.size + 1, 0, none⟩) (by simp) v0).setCell (p := ⟨w.heap.size + 1, 1, none⟩) (by simp) v1)
      have FIN := Lib.hid (show ∀ (tm : Array Value) (e : Int), tm.getD 2 undef = .pointer (some ⟨w.heap.size + 1, 0, none⟩) → tm.getD 3 undef = .int .i64 e → e = (if r2 = 0 then 71 else 0) → bodyPostM Fence.wide 4 Try.prog Try.f36 (fun e w' =>
          e = .returned (.tuple #[.agg #[.int .i64 (vicR s).1, .int .i64 (vicR s).2.1], .int .i64 (vicE s)]) ∧ Below w.heap.size w w') .ret { tmps := tm, defers := [{ target := .collected D, args := #[] }] } ((W.setCell ⟨w.heap.size + 1, 0, none⟩ (.int .i64 r1)).setCell ⟨w.heap.size + 1, 1, none⟩ (.int .i64 r2)) from by
        intro tm e h2 h3 he
        refine ⟨by simp, .inl ⟨_, _, rfl, run_takeDeferred (HK2.out _ _), ?_⟩⟩
        refine ⟨_, results_row_tmp _ rfl tm (w.heap.size + 1) 66 #[.int .i64 r1, .int .i64 r2] (0, 0) _ h2 ?hg Try.underlying66 rfl (by kernel_rfl), ?_⟩
        case hg => exact (World.putObj_heap_other (by have := n5.out; omega)).trans (HR2.out _ _)
        rw [h3, he, hve.out, hvr.out]
        exact ⟨rfl, (HB7.out _ _).trans (belowK_b (w := w5) hlw5 _ D _ _ hD (HK2.out _ _) rfl rfl)⟩)
      by_cases hq : r2 = 0
      · have e1 : (r2 == 0) = true := by simpa using hq
        have HQ := Lib.hid hq
        clear hq
        gi_wp2_with fail
        refine FIN.out _ 71 ?_ ?_ (by rw [if_pos HQ.out]) <;> rfl
      · have e1 : (r2 == 0) = false := by simpa using hq
        gi_wp2_with fail
        refine FIN.out _ 0 ?_ ?_ (by rw [if_neg hq]) <;> rfl
    case stop =>
      rintro D c pre W _ _ h _
      exact h.elim
end Go.Proofs.Ytfoeddmbhmfjcaa
/- The page's Victim, and the program's: the same. -/
namespace Go.Proofs.Ytfoeddmbhmfjcaa
open Go.RowKit
set_option maxRecDepth 100000
theorem victim_A (fr : Bool) (s : St) (nb : Nat) (hok : okSt s) : ASound Try.prog 36 [aSt fr s] nb (.ret (.tup [.agg [.v (.int .i64 (vicR s).1), .v (.int .i64 (vicR s).2.1)], .v (.int .i64 (vicE s))]) []) := by
  refine asound_of (by rfl) fun c us hr ha => ?_
  obtain ⟨u, rfl, hv⟩ := vrt1 ha
  obtain ⟨A0, c0, A1, c1, A2, c2, rfl, h0, h1, h2⟩ := rd_st hok hv
  refine ((callsIn_wide (n := 4)).1 (victim_in s A0 A1 A2 c0 c1 c2 c.w h0 h2)).mono ?_
  rintro e w' ⟨rfl, hb⟩
  exact ⟨_, rfl, hb, by rw [VR]; exact ⟨_, rfl, _, _, rfl, (by rw [VR]; exact ⟨_, rfl, _, _, rfl, rfl, rfl, _, _, rfl, rfl, rfl, rfl⟩), _, _, rfl, rfl, rfl⟩⟩
theorem live_seq {s : St} {k : Nat} {x : Sg} (g : Good s) (hx : s.segs[k]? = some x) (h : liveErr s k = 0) : x.seq ≠ 0 := by
  have h1 := liveErr_in (chk_t g) hx
  intro h2
  rw [if_pos h2, h] at h1
  cases h1
theorem vicF_facts {s : St} (g : Good s) : ∀ k, k ≤ s.segs.length → ((vicF s (candL s k)).2.1 = 0 → vicF s (candL s k) = (0, 0, 0)) ∧ ((vicF s (candL s k)).2.1 ≠ 0 → ∃ (a : Nat) (x : Sg), (vicF s (candL s k)).1 = a ∧ s.segs[a]? = some x ∧ x.seq = (vicF s (candL s k)).2.1)
  | 0, _ => ⟨fun _ => rfl, fun h => absurd rfl h⟩
  | k + 1, hk => by
    obtain ⟨x, hx, _, _⟩ := lt_at (show k < s.segs.length by omega)
    have ih := vicF_facts g k (by omega)
    by_cases hc : liveErr s k = 0 ∧ (liveL s k).length ≠ 8
    · rw [candL_yes hx hc.1 hc.2, vicF_snoc]
      generalize vicF s (candL s k) = r at ih ⊢
      unfold vicStep
      split
      · simp only [Int.toNat_natCast, hx, Option.map_some, Option.getD_some]
        exact ⟨fun h => absurd h (live_seq g hx hc.1), fun _ => ⟨k, x, rfl, hx, rfl⟩⟩
      · exact ih
    · rw [candL_no hx hc]; exact ih
abbrev L_rvic (fr : Bool) (s : St) (k : Nat) : ASt := ⟨envOf [(1, .op 0 0), (2, .op 1 0), (4, .v (.int .i64 (vicF s (candL s k)).2.2)), (5, .v (.int .i64 (vicF s (candL s k)).1)), (6, .v (.bool (!decide ((vicF s (candL s k)).2.1 = 0)))), (7, .v (.int .i64 k))],
  heapOf [(0, stRow 32 fr s), (1, .row true 71 [.v (.int .i64 0), .v (.int .i64 0)])], 2⟩
theorem rvictim_spec (fr : Bool) (s : St) (nb : Nat) : ASound Try.prog 37 [aSt fr s] nb (.ret (.tup [.agg [.v (.int .i64 (vicR s).1), .v (.int .i64 (vicR s).2.1)], .v (.int .i64 (vicE s))]) []) := by
  refine ok_37.sound (by simp) ⟨al_aSt s, trivial⟩ ?_
  simp only [ac_37, SS, boxA, cellsOf, foffA, loadA, ldA, idxA, fldA, binA, binVal, isSh, intVal, lenA, slenA, pickA, storeA, setN, getN, fillA, extA, beqA, eqsA, eqL, isnilA, unA, unVal, convA, nilA, sconvA, b2sA, b2sOf, bytesOf, mmA, srcA, appA, sliceA, lohi, mkslA, envA, ↓reduceIte, Nat.reduceEqDiff, Nat.reduceAdd, Nat.reduceMul, reduceCtorEq, Nat.reduceLeDiff, fB, fBools, fBlks, fSegs, aBlk, aSg, aSt, stRow, List.drop_zero, List.take_succ_cons, List.take_zero, List.take_nil, Nat.mul_one, Nat.one_mul, List.cons_append, List.nil_append]
  refine ⟨_, rCheck_spec fr s _, ?_⟩
  rw [rchk_eq]
  unfold vicE vicR
  cases hc : chk s with
  | false =>
    simp only [show errN false = 9 from rfl, Int.reduceEq, not_false_eq_true, SS, boxA, cellsOf, foffA, loadA, ldA, idxA, fldA, binA, binVal, isSh, intVal, lenA, slenA, pickA, storeA, setN, getN, fillA, extA, beqA, eqsA, eqL, isnilA, unA, unVal, convA, nilA, sconvA, b2sA, b2sOf, bytesOf, mmA, srcA, appA, sliceA, lohi, mkslA, envA, ↓reduceIte, Nat.reduceEqDiff, Nat.reduceAdd, Nat.reduceMul, reduceCtorEq, Nat.reduceLeDiff, fB, fBools, fBlks, fSegs, aBlk, aSg, aSt, stRow, List.drop_zero, List.take_succ_cons, List.take_zero, List.take_nil, Nat.mul_one, Nat.one_mul, List.cons_append, List.nil_append]
    exact Ends.data (.inr rfl) (by simp [resL, resOne, tupOf, getN, s_envOf, s_envOf0, s_heapOf, s_heapOf0, s_put1, s_app0, s_app1]) ⟨⟨trivial, trivial, trivial⟩, trivial, trivial⟩
  | true =>
    have g := (chk_iff s).1 hc
    have h64 := g.n64
    simp only [show errN true = 0 from rfl, not_true, SS, boxA, cellsOf, foffA, loadA, ldA, idxA, fldA, binA, binVal, isSh, intVal, lenA, slenA, pickA, storeA, setN, getN, fillA, extA, beqA, eqsA, eqL, isnilA, unA, unVal, convA, nilA, sconvA, b2sA, b2sOf, bytesOf, mmA, srcA, appA, sliceA, lohi, mkslA, envA, ↓reduceIte, Nat.reduceEqDiff, Nat.reduceAdd, Nat.reduceMul, reduceCtorEq, Nat.reduceLeDiff, fB, fBools, fBlks, fSegs, aBlk, aSg, aSt, stRow, List.drop_zero, List.take_succ_cons, List.take_zero, List.take_nil, Nat.mul_one, Nat.one_mul, List.cons_append, List.nil_append]
    refine AWc.family (L_rvic fr s) (fun k => k ≤ s.segs.length) (fun k => s.segs.length - k) 0 (Nat.zero_le _) ?_ ?_
    · refine Weak.calc [(0, 0), (64, 1)] (by decide) ?_ ?_ <;> simp [candL, vicF, tk_B, tk_Bools, tk_Blks, tk_Segs, AlL_append, renL_append, okL, okH, rowIs, okV, okHV, rowVt, vtL, okF, okHF, rowFz, fzL, fzV, fzOne, nilLike, oldLike, rn, s_envOf, s_envOf0, s_heapOf, s_heapOf0, s_put, s_put0, s_put1, s_app0, s_app1, Al, AlL, ren, renL, al_B, al_Bools, al_Blks, al_Segs, ren_B, ren_Bools, ren_Blks, ren_Segs, fB, fBools, fBlks, fSegs]
    · intro k hk
      by_cases hlt : k < s.segs.length
      · obtain ⟨x, hx, e1, e0⟩ := lt_at hlt
        obtain ⟨g0, g1⟩ := get_Segs (fr := fr) hx
        simp only [L_rvic, e1, SS, boxA, cellsOf, foffA, loadA, ldA, idxA, fldA, binA, binVal, isSh, intVal, lenA, slenA, pickA, storeA, setN, getN, fillA, extA, beqA, eqsA, eqL, isnilA, unA, unVal, convA, nilA, sconvA, b2sA, b2sOf, bytesOf, mmA, srcA, appA, sliceA, lohi, mkslA, envA, ↓reduceIte, Nat.reduceEqDiff, Nat.reduceAdd, Nat.reduceMul, reduceCtorEq, Nat.reduceLeDiff, fB, fBools, fBlks, fSegs, aBlk, aSg, aSt, stRow, List.drop_zero, List.take_succ_cons, List.take_zero, List.take_nil, Nat.mul_one, Nat.one_mul, List.cons_append, List.nil_append]
        refine ⟨_, rLive_spec fr s k _, ?_⟩
        rw [live_eq, used_eq]
        simp only [SS, boxA, cellsOf, foffA, loadA, ldA, idxA, fldA, binA, binVal, isSh, intVal, lenA, slenA, pickA, storeA, setN, getN, fillA, extA, beqA, eqsA, eqL, isnilA, unA, unVal, convA, nilA, sconvA, b2sA, b2sOf, bytesOf, mmA, srcA, appA, sliceA, lohi, mkslA, envA, ↓reduceIte, Nat.reduceEqDiff, Nat.reduceAdd, Nat.reduceMul, reduceCtorEq, Nat.reduceLeDiff, fB, fBools, fBlks, fSegs, aBlk, aSg, aSt, stRow, List.drop_zero, List.take_succ_cons, List.take_zero, List.take_nil, Nat.mul_one, Nat.one_mul, List.cons_append, List.nil_append]
        have hl8 := (live_len s (k : Int)).1
        have lll : (eSegs fr s.segs).length = s.segs.length * 2 := len_Segs ..
        by_cases he : liveErr s k = 0
        · by_cases h8 : (8 : Int) ≤ ((liveL s k).length : Int)
          · have hno := candL_no hx (fun h => h.2 (by omega))
            simp only [he, h8, SS, boxA, cellsOf, foffA, loadA, ldA, idxA, fldA, binA, binVal, isSh, intVal, lenA, slenA, pickA, storeA, setN, getN, fillA, extA, beqA, eqsA, eqL, isnilA, unA, unVal, convA, nilA, sconvA, b2sA, b2sOf, bytesOf, mmA, srcA, appA, sliceA, lohi, mkslA, envA, ↓reduceIte, Nat.reduceEqDiff, Nat.reduceAdd, Nat.reduceMul, reduceCtorEq, Nat.reduceLeDiff, fB, fBools, fBlks, fSegs, aBlk, aSg, aSt, stRow, List.drop_zero, List.take_succ_cons, List.take_zero, List.take_nil, Nat.mul_one, Nat.one_mul, List.cons_append, List.nil_append]
            refine famC_next (k + 1) (by omega) (by omega) ?_
            refine Weak.calc [(0, 0), (1, 1)] (by decide) ?_ ?_ <;> simp [hno, tk_B, tk_Bools, tk_Blks, tk_Segs, AlL_append, renL_append, okL, okH, rowIs, okV, okHV, rowVt, vtL, okF, okHF, rowFz, fzL, fzV, fzOne, nilLike, oldLike, rn, s_envOf, s_envOf0, s_heapOf, s_heapOf0, s_put, s_put0, s_put1, s_app0, s_app1, Al, AlL, ren, renL, al_B, al_Bools, al_Blks, al_Segs, ren_B, ren_Bools, ren_Blks, ren_Segs, fB, fBools, fBlks, fSegs, wrap64 (x := (k : Int) + 1) (by omega)]
          · have hyes := candL_yes hx he (fun h => h8 (by omega))
            simp only [he, h8, e0, e1, g0, g1, SS, boxA, cellsOf, foffA, loadA, ldA, idxA, fldA, binA, binVal, isSh, intVal, lenA, slenA, pickA, storeA, setN, getN, fillA, extA, beqA, eqsA, eqL, isnilA, unA, unVal, convA, nilA, sconvA, b2sA, b2sOf, bytesOf, mmA, srcA, appA, sliceA, lohi, mkslA, envA, ↓reduceIte, Nat.reduceEqDiff, Nat.reduceAdd, Nat.reduceMul, reduceCtorEq, Nat.reduceLeDiff, fB, fBools, fBlks, fSegs, aBlk, aSg, aSt, stRow, List.drop_zero, List.take_succ_cons, List.take_zero, List.take_nil, Nat.mul_one, Nat.one_mul, List.cons_append, List.nil_append]
            refine ⟨_, rscore_spec x.seq (liveL s k).length s.next _, ?_⟩
            simp only [SS, boxA, cellsOf, foffA, loadA, ldA, idxA, fldA, binA, binVal, isSh, intVal, lenA, slenA, pickA, storeA, setN, getN, fillA, extA, beqA, eqsA, eqL, isnilA, unA, unVal, convA, nilA, sconvA, b2sA, b2sOf, bytesOf, mmA, srcA, appA, sliceA, lohi, mkslA, envA, ↓reduceIte, Nat.reduceEqDiff, Nat.reduceAdd, Nat.reduceMul, reduceCtorEq, Nat.reduceLeDiff, fB, fBools, fBlks, fSegs, aBlk, aSg, aSt, stRow, List.drop_zero, List.take_succ_cons, List.take_zero, List.take_nil, Nat.mul_one, Nat.one_mul, List.cons_append, List.nil_append]
            refine ⟨by rfl, ?_⟩
            have hsn : vicF s (candL s (k + 1)) = vicStep s (vicF s (candL s k)) ((k : Int), scV x.seq (liveL s k).length s.next) := by rw [hyes, vicF_snoc]
            have hsq : (s.segs[k]?).map (·.seq) = some x.seq := by rw [hx]; rfl
            have hnz := live_seq g hx he
            generalize scV x.seq (liveL s k).length s.next = n at hsn ⊢
            generalize vicF s (candL s k) = r at hsn ⊢
            obtain ⟨r1, r2, r3⟩ := r
            by_cases hq : r2 = 0
            · simp only [hq, not_true, not_false_eq_true, SS, boxA, cellsOf, foffA, loadA, ldA, idxA, fldA, binA, binVal, isSh, intVal, lenA, slenA, pickA, storeA, setN, getN, fillA, extA, beqA, eqsA, eqL, isnilA, unA, unVal, convA, nilA, sconvA, b2sA, b2sOf, bytesOf, mmA, srcA, appA, sliceA, lohi, mkslA, envA, ↓reduceIte, Nat.reduceEqDiff, Nat.reduceAdd, Nat.reduceMul, reduceCtorEq, Nat.reduceLeDiff, fB, fBools, fBlks, fSegs, aBlk, aSg, aSt, stRow, List.drop_zero, List.take_succ_cons, List.take_zero, List.take_nil, Nat.mul_one, Nat.one_mul, List.cons_append, List.nil_append]
              refine famC_next (k + 1) (by omega) (by omega) ?_
              refine Weak.calc [(0, 0), (1, 1)] (by decide) ?_ ?_ <;> simp [hsn, vicStep, hq, hsq, hnz, tk_B, tk_Bools, tk_Blks, tk_Segs, AlL_append, renL_append, okL, okH, rowIs, okV, okHV, rowVt, vtL, okF, okHF, rowFz, fzL, fzV, fzOne, nilLike, oldLike, rn, s_envOf, s_envOf0, s_heapOf, s_heapOf0, s_put, s_put0, s_put1, s_app0, s_app1, Al, AlL, ren, renL, al_B, al_Bools, al_Blks, al_Segs, ren_B, ren_Bools, ren_Blks, ren_Segs, fB, fBools, fBlks, fSegs, wrap64 (x := (k : Int) + 1) (by omega)]
            · by_cases hv : r3 < n
              · simp only [hq, hv, not_true, not_false_eq_true, SS, boxA, cellsOf, foffA, loadA, ldA, idxA, fldA, binA, binVal, isSh, intVal, lenA, slenA, pickA, storeA, setN, getN, fillA, extA, beqA, eqsA, eqL, isnilA, unA, unVal, convA, nilA, sconvA, b2sA, b2sOf, bytesOf, mmA, srcA, appA, sliceA, lohi, mkslA, envA, ↓reduceIte, Nat.reduceEqDiff, Nat.reduceAdd, Nat.reduceMul, reduceCtorEq, Nat.reduceLeDiff, fB, fBools, fBlks, fSegs, aBlk, aSg, aSt, stRow, List.drop_zero, List.take_succ_cons, List.take_zero, List.take_nil, Nat.mul_one, Nat.one_mul, List.cons_append, List.nil_append]
                refine famC_next (k + 1) (by omega) (by omega) ?_
                refine Weak.calc [(0, 0), (1, 1)] (by decide) ?_ ?_ <;> simp [hsn, vicStep, hq, hv, hsq, hnz, tk_B, tk_Bools, tk_Blks, tk_Segs, AlL_append, renL_append, okL, okH, rowIs, okV, okHV, rowVt, vtL, okF, okHF, rowFz, fzL, fzV, fzOne, nilLike, oldLike, rn, s_envOf, s_envOf0, s_heapOf, s_heapOf0, s_put, s_put0, s_put1, s_app0, s_app1, Al, AlL, ren, renL, al_B, al_Bools, al_Blks, al_Segs, ren_B, ren_Bools, ren_Blks, ren_Segs, fB, fBools, fBlks, fSegs, wrap64 (x := (k : Int) + 1) (by omega)]
              · simp only [hq, hv, not_true, not_false_eq_true, SS, boxA, cellsOf, foffA, loadA, ldA, idxA, fldA, binA, binVal, isSh, intVal, lenA, slenA, pickA, storeA, setN, getN, fillA, extA, beqA, eqsA, eqL, isnilA, unA, unVal, convA, nilA, sconvA, b2sA, b2sOf, bytesOf, mmA, srcA, appA, sliceA, lohi, mkslA, envA, ↓reduceIte, Nat.reduceEqDiff, Nat.reduceAdd, Nat.reduceMul, reduceCtorEq, Nat.reduceLeDiff, fB, fBools, fBlks, fSegs, aBlk, aSg, aSt, stRow, List.drop_zero, List.take_succ_cons, List.take_zero, List.take_nil, Nat.mul_one, Nat.one_mul, List.cons_append, List.nil_append]
                refine famC_next (k + 1) (by omega) (by omega) ?_
                refine Weak.calc [(0, 0), (1, 1)] (by decide) ?_ ?_ <;> simp [hsn, vicStep, hq, hv, hsq, hnz, tk_B, tk_Bools, tk_Blks, tk_Segs, AlL_append, renL_append, okL, okH, rowIs, okV, okHV, rowVt, vtL, okF, okHF, rowFz, fzL, fzV, fzOne, nilLike, oldLike, rn, s_envOf, s_envOf0, s_heapOf, s_heapOf0, s_put, s_put0, s_put1, s_app0, s_app1, Al, AlL, ren, renL, al_B, al_Bools, al_Blks, al_Segs, ren_B, ren_Bools, ren_Blks, ren_Segs, fB, fBools, fBlks, fSegs, wrap64 (x := (k : Int) + 1) (by omega)]
        · have hno := candL_no hx (fun h => he h.1)
          simp only [he, SS, boxA, cellsOf, foffA, loadA, ldA, idxA, fldA, binA, binVal, isSh, intVal, lenA, slenA, pickA, storeA, setN, getN, fillA, extA, beqA, eqsA, eqL, isnilA, unA, unVal, convA, nilA, sconvA, b2sA, b2sOf, bytesOf, mmA, srcA, appA, sliceA, lohi, mkslA, envA, ↓reduceIte, Nat.reduceEqDiff, Nat.reduceAdd, Nat.reduceMul, reduceCtorEq, Nat.reduceLeDiff, fB, fBools, fBlks, fSegs, aBlk, aSg, aSt, stRow, List.drop_zero, List.take_succ_cons, List.take_zero, List.take_nil, Nat.mul_one, Nat.one_mul, List.cons_append, List.nil_append]
          refine famC_next (k + 1) (by omega) (by omega) ?_
          refine Weak.calc [(0, 0), (1, 1)] (by decide) ?_ ?_ <;> simp [hno, tk_B, tk_Bools, tk_Blks, tk_Segs, AlL_append, renL_append, okL, okH, rowIs, okV, okHV, rowVt, vtL, okF, okHF, rowFz, fzL, fzV, fzOne, nilLike, oldLike, rn, s_envOf, s_envOf0, s_heapOf, s_heapOf0, s_put, s_put0, s_put1, s_app0, s_app1, Al, AlL, ren, renL, al_B, al_Bools, al_Blks, al_Segs, ren_B, ren_Bools, ren_Blks, ren_Segs, fB, fBools, fBlks, fSegs, wrap64 (x := (k : Int) + 1) (by omega)]
      · have e1 : ¬ ((k : Int) < (s.segs.length : Int)) := by omega
        obtain rfl : k = s.segs.length := by omega
        have hf := vicF_facts g _ (Nat.le_refl _)
        simp only [L_rvic, e1, SS, boxA, cellsOf, foffA, loadA, ldA, idxA, fldA, binA, binVal, isSh, intVal, lenA, slenA, pickA, storeA, setN, getN, fillA, extA, beqA, eqsA, eqL, isnilA, unA, unVal, convA, nilA, sconvA, b2sA, b2sOf, bytesOf, mmA, srcA, appA, sliceA, lohi, mkslA, envA, ↓reduceIte, Nat.reduceEqDiff, Nat.reduceAdd, Nat.reduceMul, reduceCtorEq, Nat.reduceLeDiff, fB, fBools, fBlks, fSegs, aBlk, aSg, aSt, stRow, List.drop_zero, List.take_succ_cons, List.take_zero, List.take_nil, Nat.mul_one, Nat.one_mul, List.cons_append, List.nil_append]
        generalize vicF s (candL s s.segs.length) = r at hf ⊢
        obtain ⟨r1, r2, r3⟩ := r
        by_cases hq : r2 = 0
        · have hf1 := hf.1 hq
          simp only [Prod.mk.injEq] at hf1
          obtain ⟨rfl, rfl, rfl⟩ := hf1
          simp only [SS, boxA, cellsOf, foffA, loadA, ldA, idxA, fldA, binA, binVal, isSh, intVal, lenA, slenA, pickA, storeA, setN, getN, fillA, extA, beqA, eqsA, eqL, isnilA, unA, unVal, convA, nilA, sconvA, b2sA, b2sOf, bytesOf, mmA, srcA, appA, sliceA, lohi, mkslA, envA, ↓reduceIte, Nat.reduceEqDiff, Nat.reduceAdd, Nat.reduceMul, reduceCtorEq, Nat.reduceLeDiff, fB, fBools, fBlks, fSegs, aBlk, aSg, aSt, stRow, List.drop_zero, List.take_succ_cons, List.take_zero, List.take_nil, Nat.mul_one, Nat.one_mul, List.cons_append, List.nil_append]
          exact Ends.data (.inr rfl) (by simp [resL, resOne, tupOf, getN, s_envOf, s_envOf0, s_heapOf, s_heapOf0, s_put1, s_app0, s_app1]) ⟨⟨trivial, trivial, trivial⟩, trivial, trivial⟩
        · obtain ⟨a, x, h1, h2, h3⟩ := hf.2 hq
          simp only at h1 h3
          subst h1; subst h3
          obtain ⟨g0, g1⟩ := get_Segs (fr := fr) h2
          have ha : (0 : Int) ≤ (a : Int) ∧ (a : Int) < (s.segs.length : Int) := by rw [List.getElem?_eq_some_iff] at h2; have := h2.1; omega
          simp only [hq, ha.1, ha.2, g0, SS, boxA, cellsOf, foffA, loadA, ldA, idxA, fldA, binA, binVal, isSh, intVal, lenA, slenA, pickA, storeA, setN, getN, fillA, extA, beqA, eqsA, eqL, isnilA, unA, unVal, convA, nilA, sconvA, b2sA, b2sOf, bytesOf, mmA, srcA, appA, sliceA, lohi, mkslA, envA, ↓reduceIte, Nat.reduceEqDiff, Nat.reduceAdd, Nat.reduceMul, reduceCtorEq, Nat.reduceLeDiff, fB, fBools, fBlks, fSegs, aBlk, aSg, aSt, stRow, List.drop_zero, List.take_succ_cons, List.take_zero, List.take_nil, Nat.mul_one, Nat.one_mul, List.cons_append, List.nil_append]
          exact Ends.data (.inr rfl) (by simp [resL, resOne, tupOf, getN, s_envOf, s_envOf0, s_heapOf, s_heapOf0, s_put1, s_app0, s_app1]) ⟨⟨trivial, trivial, trivial⟩, trivial, trivial⟩
end Go.Proofs.Ytfoeddmbhmfjcaa
/- Functions of the program, compiled. -/
namespace Go.Proofs.Ytfoeddmbhmfjcaa
set_option maxRecDepth 100000
def ac_9 : AC :=
(.seq (.reg false [⟨some 5, .box 32 (.tmp 0), none, [0], []⟩,
    ⟨some 6, .box 71 (.tmp 1), none, [1], []⟩,
    ⟨some 10, .mv (.const (.bool false)), none, [], []⟩] [2, 3, 4, 5, 6])
(.seq (.reg false [⟨some 28, .load true 4 (.tmp 5), none, [5], []⟩,
    ⟨some 29, .call 18 [(.tmp 28)], none, [28], []⟩,
    ⟨some 11, .new 36 [(.slice none 0 0), (.slice none 0 0), (.slice none 0 0), (.int .i64 (0))], none, [], []⟩,
    ⟨none, .store 4 (.tmp 11) (.tmp 29), none, [11, 29], []⟩] [2, 3, 4, 5, 6, 11])
(.seq (.reg false [⟨some 31, .mv (.tmp 2), none, [2], []⟩,
    ⟨some 32, .mv (.tmp 3), none, [3], []⟩,
    ⟨some 33, .mv (.tmp 4), none, [4], []⟩,
    ⟨some 34, .call 16 [(.tmp 31), (.tmp 32), (.tmp 33)], none, [31, 32, 33], []⟩,
    ⟨some 30, .mv (.tmp 34), none, [34], []⟩,
    ⟨some 35, .ext 0 (.tmp 30), none, [30], []⟩,
    ⟨some 36, .ext 1 (.tmp 30), none, [30], []⟩,
    ⟨some 12, .mv (.tmp 35), none, [35], []⟩,
    ⟨some 13, .mv (.tmp 36), none, [36], []⟩] [2, 3, 4, 5, 6, 11, 12, 13])
(.seq (.reg false [⟨some 38, .mv (.tmp 2), none, [2], []⟩,
    ⟨some 39, .mv (.tmp 3), none, [3], []⟩,
    ⟨some 40, .mv (.tmp 4), none, [4], []⟩,
    ⟨some 41, .call 38 [(.tmp 38), (.tmp 39), (.tmp 40)], none, [38, 39, 40], []⟩,
    ⟨some 37, .mv (.tmp 41), none, [41], []⟩,
    ⟨some 42, .ext 0 (.tmp 37), none, [37], []⟩,
    ⟨some 43, .ext 1 (.tmp 37), none, [37], []⟩,
    ⟨some 14, .mv (.tmp 42), none, [42], []⟩,
    ⟨some 15, .mv (.tmp 43), none, [43], []⟩] [5, 6, 11, 12, 13, 14, 15])
(.seq (.reg false [⟨some 45, .load true 4 (.tmp 11), none, [11], []⟩,
    ⟨some 46, .call 36 [(.tmp 45)], none, [45], []⟩,
    ⟨some 44, .mv (.tmp 46), none, [46], []⟩,
    ⟨some 47, .ext 0 (.tmp 44), none, [44], []⟩,
    ⟨some 48, .ext 1 (.tmp 44), none, [44], []⟩,
    ⟨some 16, .new 66 [(.int .i64 (0)), (.int .i64 (0))], none, [], []⟩,
    ⟨none, .store 2 (.tmp 16) (.tmp 47), none, [16, 47], []⟩,
    ⟨some 17, .mv (.tmp 48), none, [48], []⟩] [5, 6, 11, 12, 13, 14, 15, 16, 17])
(.seq (.reg false [⟨some 50, .load true 4 (.tmp 5), none, [5], []⟩,
    ⟨some 51, .call 37 [(.tmp 50)], none, [50], []⟩,
    ⟨some 49, .mv (.tmp 51), none, [51], []⟩,
    ⟨some 52, .ext 0 (.tmp 49), none, [49], []⟩,
    ⟨some 53, .ext 1 (.tmp 49), none, [49], []⟩,
    ⟨some 18, .new 71 [(.int .i64 (0)), (.int .i64 (0))], none, [], []⟩,
    ⟨none, .store 2 (.tmp 18) (.tmp 52), none, [18, 52], []⟩,
    ⟨some 19, .mv (.tmp 53), none, [53], []⟩] [5, 6, 11, 12, 13, 14, 15, 16, 17, 18, 19])
(.seq (.reg false [⟨some 55, .load true 4 (.tmp 11), none, [11], []⟩,
    ⟨some 56, .load true 2 (.tmp 6), none, [6], []⟩,
    ⟨some 57, .call 33 [(.tmp 55), (.tmp 56)], none, [55, 56], []⟩,
    ⟨some 54, .mv (.tmp 57), none, [57], []⟩,
    ⟨some 58, .ext 0 (.tmp 54), none, [54], []⟩,
    ⟨some 59, .ext 1 (.tmp 54), none, [54], []⟩,
    ⟨some 20, .new 36 [(.slice none 0 0), (.slice none 0 0), (.slice none 0 0), (.int .i64 (0))], none, [], []⟩,
    ⟨none, .store 4 (.tmp 20) (.tmp 58), none, [20, 58], []⟩,
    ⟨some 21, .mv (.tmp 59), none, [59], []⟩] [5, 6, 11, 12, 13, 14, 15, 16, 17, 18, 19, 20, 21])
(.seq (.reg false [⟨some 61, .load true 4 (.tmp 5), none, [5], []⟩,
    ⟨some 62, .load true 2 (.tmp 6), none, [6], []⟩,
    ⟨some 63, .call 35 [(.tmp 61), (.tmp 62)], none, [61, 62], []⟩,
    ⟨some 60, .mv (.tmp 63), none, [63], []⟩,
    ⟨some 64, .ext 0 (.tmp 60), none, [60], []⟩,
    ⟨some 65, .ext 1 (.tmp 60), none, [60], []⟩,
    ⟨some 22, .new 32 [(.slice none 0 0), (.slice none 0 0), (.slice none 0 0), (.int .i64 (0))], none, [], []⟩,
    ⟨none, .store 4 (.tmp 22) (.tmp 64), none, [22, 64], []⟩,
    ⟨some 23, .mv (.tmp 65), none, [65], []⟩] [5, 11, 12, 13, 14, 15, 16, 17, 18, 19, 20, 21, 22, 23])
(.seq (.reg false [⟨some 67, .load true 4 (.tmp 11), none, [11], []⟩,
    ⟨some 68, .call 39 [(.tmp 67)], none, [67], []⟩,
    ⟨some 66, .mv (.tmp 68), none, [68], []⟩,
    ⟨some 69, .ext 0 (.tmp 66), none, [66], []⟩,
    ⟨some 70, .ext 1 (.tmp 66), none, [66], []⟩,
    ⟨some 24, .mv (.tmp 69), none, [69], []⟩,
    ⟨some 25, .mv (.tmp 70), none, [70], []⟩] [5, 11, 12, 13, 14, 15, 16, 17, 18, 19, 20, 21, 22, 23, 24, 25])
(.seq (.reg false [⟨some 72, .load true 4 (.tmp 5), none, [5], []⟩,
    ⟨some 73, .call 40 [(.tmp 72)], none, [72], []⟩,
    ⟨some 71, .mv (.tmp 73), none, [73], []⟩,
    ⟨some 74, .ext 0 (.tmp 71), none, [71], []⟩,
    ⟨some 75, .ext 1 (.tmp 71), none, [71], []⟩,
    ⟨some 26, .mv (.tmp 74), none, [74], []⟩,
    ⟨some 27, .mv (.tmp 75), none, [75], []⟩] [5, 11, 12, 13, 14, 15, 16, 17, 18, 19, 20, 21, 22, 23, 24, 25, 26, 27])
(.seq (.reg false [⟨some 76, .mv (.tmp 12), none, [12], []⟩,
    ⟨some 77, .mv (.tmp 14), none, [14], []⟩,
    ⟨some 78, .bin .eql (.tmp 76) (.tmp 77), none, [76, 77], []⟩,
    ⟨some 79, .mv (.tmp 78), none, [78], []⟩,
    ⟨some 80, .mv (.tmp 13), some (79, true), [13, 79], []⟩,
    ⟨some 81, .call 17 [(.tmp 80)], some (79, true), [80, 79], []⟩,
    ⟨some 82, .mv (.tmp 15), some (79, true), [15, 79], []⟩,
    ⟨some 83, .bin .eql (.tmp 81) (.tmp 82), some (79, true), [81, 82, 79], []⟩,
    ⟨some 84, .pick (.tmp 79) (.tmp 83) (.const (.bool false)), none, [79, 83], []⟩,
    ⟨some 85, .mv (.tmp 84), none, [84], []⟩,
    ⟨some 86, .load true 2 (.tmp 16), some (85, true), [16, 85], []⟩,
    ⟨some 87, .load true 2 (.tmp 18), some (85, true), [18, 85], []⟩,
    ⟨some 88, .eqs false [true, true] (.tmp 86) (.tmp 87), some (85, true), [86, 87, 85], []⟩,
    ⟨some 89, .pick (.tmp 85) (.tmp 88) (.const (.bool false)), none, [85, 88], []⟩,
    ⟨some 90, .mv (.tmp 89), none, [89], []⟩,
    ⟨some 91, .mv (.tmp 17), some (90, true), [17, 90], []⟩,
    ⟨some 92, .call 17 [(.tmp 91)], some (90, true), [91, 90], []⟩,
    ⟨some 93, .mv (.tmp 19), some (90, true), [19, 90], []⟩,
    ⟨some 94, .bin .eql (.tmp 92) (.tmp 93), some (90, true), [92, 93, 90], []⟩,
    ⟨some 95, .pick (.tmp 90) (.tmp 94) (.const (.bool false)), none, [90, 94], []⟩,
    ⟨some 96, .mv (.tmp 95), none, [95], []⟩,
    ⟨some 97, .load true 4 (.tmp 20), some (96, true), [20, 96], []⟩,
    ⟨some 98, .load true 4 (.tmp 22), some (96, true), [22, 96], []⟩,
    ⟨some 99, .call 25 [(.tmp 97), (.tmp 98)], some (96, true), [97, 98, 96], []⟩,
    ⟨some 100, .bin .eql (.tmp 99) (.const (.int .i64 (0))), some (96, true), [99, 96], []⟩,
    ⟨some 101, .pick (.tmp 96) (.tmp 100) (.const (.bool false)), none, [96, 100], []⟩,
    ⟨some 102, .mv (.tmp 101), none, [101], []⟩,
    ⟨some 103, .mv (.tmp 21), some (102, true), [21, 102], []⟩,
    ⟨some 104, .call 17 [(.tmp 103)], some (102, true), [103, 102], []⟩,
    ⟨some 105, .mv (.tmp 23), some (102, true), [23, 102], []⟩,
    ⟨some 106, .bin .eql (.tmp 104) (.tmp 105), some (102, true), [104, 105, 102], []⟩,
    ⟨some 107, .pick (.tmp 102) (.tmp 106) (.const (.bool false)), none, [102, 106], []⟩,
    ⟨some 108, .mv (.tmp 107), none, [107], []⟩,
    ⟨some 109, .mv (.tmp 24), some (108, true), [24, 108], []⟩,
    ⟨some 110, .mv (.tmp 26), some (108, true), [26, 108], []⟩,
    ⟨some 111, .bin .eql (.tmp 109) (.tmp 110), some (108, true), [109, 110, 108], []⟩,
    ⟨some 112, .pick (.tmp 108) (.tmp 111) (.const (.bool false)), none, [108, 111], []⟩,
    ⟨some 113, .mv (.tmp 112), none, [112], []⟩,
    ⟨some 114, .mv (.tmp 25), some (113, true), [25, 113], []⟩,
    ⟨some 115, .call 17 [(.tmp 114)], some (113, true), [114, 113], []⟩,
    ⟨some 116, .mv (.tmp 27), some (113, true), [27, 113], []⟩,
    ⟨some 117, .bin .eql (.tmp 115) (.tmp 116), some (113, true), [115, 116, 113], []⟩,
    ⟨some 118, .pick (.tmp 113) (.tmp 117) (.const (.bool false)), none, [113, 117], []⟩,
    ⟨some 119, .mv (.tmp 118), none, [118], []⟩,
    ⟨some 120, .load true 4 (.tmp 11), some (119, true), [11, 119], []⟩,
    ⟨some 121, .load true 4 (.tmp 5), some (119, true), [5, 119], []⟩,
    ⟨some 122, .call 25 [(.tmp 120), (.tmp 121)], some (119, true), [120, 121, 119], []⟩,
    ⟨some 123, .bin .eql (.tmp 122) (.const (.int .i64 (0))), some (119, true), [122, 119], []⟩,
    ⟨some 124, .pick (.tmp 119) (.tmp 123) (.const (.bool false)), none, [119, 123], []⟩,
    ⟨some 125, .mv (.tmp 124), none, [124], []⟩,
    ⟨some 126, .call 15 [], some (125, true), [125], []⟩,
    ⟨some 127, .pick (.tmp 125) (.tmp 126) (.const (.bool false)), none, [125, 126], []⟩,
    ⟨some 10, .mv (.tmp 127), none, [127], []⟩] [10])
.ret)))))))))))
theorem ok_9 : FnOk Try.prog 9 128 ac_9 [.tmp 10] := ⟨Try.f9, Try.func9, by kernel_rfl, by kernel_rfl, by kernel_rfl, by kernel_rfl, by kernel_rfl⟩
def ac_8 : AC :=
(.seq (.reg false [⟨some 1, .box 32 (.tmp 0), none, [0], []⟩,
    ⟨some 2, .mv (.const (.bool false)), none, [], []⟩] [1])
(.seq (.reg true [⟨some 14, .load true 4 (.tmp 1), none, [1], []⟩,
    ⟨some 15, .call 18 [(.tmp 14)], none, [14], [0]⟩,
    ⟨some 16, .load true 4 (.tmp 1), none, [1], []⟩,
    ⟨some 3, .new 36 [(.slice none 0 0), (.slice none 0 0), (.slice none 0 0), (.int .i64 (0))], none, [], []⟩,
    ⟨some 4, .new 32 [(.slice none 0 0), (.slice none 0 0), (.slice none 0 0), (.int .i64 (0))], none, [], []⟩,
    ⟨none, .store 4 (.tmp 3) (.tmp 15), none, [3, 15], [3, 1, 0, 4]⟩,
    ⟨none, .store 4 (.tmp 4) (.tmp 16), none, [4, 16], [4, 2, 5, 0, 1, 3]⟩] [3, 4])
(.seq (.seq (.reg false [⟨some 5, .mv (.const (.int .i64 (0))), none, [], []⟩] [3, 4, 5])
(.block 0 (.loop (.seq (.seq (.reg false [⟨some 17, .mv (.tmp 5), none, [5], []⟩,
    ⟨some 18, .bin .lss (.tmp 17) (.const (.int .i64 (12))), none, [17], []⟩] [3, 4, 5, 18])
(.cond (.tmp 18)
.skip
(.exit 0)))
(.seq (.block 1 (.seq (.reg false [⟨some 22, .load true 4 (.tmp 3), none, [3], []⟩,
    ⟨some 23, .call 36 [(.tmp 22)], none, [22], []⟩,
    ⟨some 21, .mv (.tmp 23), none, [23], []⟩,
    ⟨some 24, .ext 0 (.tmp 21), none, [21], []⟩,
    ⟨some 25, .ext 1 (.tmp 21), none, [21], []⟩,
    ⟨some 6, .new 66 [(.int .i64 (0)), (.int .i64 (0))], none, [], []⟩,
    ⟨none, .store 2 (.tmp 6) (.tmp 24), none, [6, 24], []⟩,
    ⟨some 7, .mv (.tmp 25), none, [25], []⟩] [3, 4, 5, 6, 7])
(.seq (.reg false [⟨some 27, .load true 4 (.tmp 4), none, [4], []⟩,
    ⟨some 28, .call 37 [(.tmp 27)], none, [27], []⟩,
    ⟨some 26, .mv (.tmp 28), none, [28], []⟩,
    ⟨some 29, .ext 0 (.tmp 26), none, [26], []⟩,
    ⟨some 30, .ext 1 (.tmp 26), none, [26], []⟩,
    ⟨some 8, .new 71 [(.int .i64 (0)), (.int .i64 (0))], none, [], []⟩,
    ⟨none, .store 2 (.tmp 8) (.tmp 29), none, [8, 29], []⟩,
    ⟨some 9, .mv (.tmp 30), none, [30], []⟩] [3, 4, 5, 6, 7, 8, 9])
(.seq (.seq (.reg false [⟨some 31, .load true 2 (.tmp 6), none, [6], []⟩,
    ⟨some 32, .load true 2 (.tmp 8), none, [8], []⟩,
    ⟨some 33, .eqs true [true, true] (.tmp 31) (.tmp 32), none, [31, 32], []⟩,
    ⟨some 34, .mv (.tmp 33), none, [33], []⟩,
    ⟨some 35, .mv (.tmp 7), some (34, false), [7, 34], []⟩,
    ⟨some 36, .call 17 [(.tmp 35)], some (34, false), [35, 34], []⟩,
    ⟨some 37, .mv (.tmp 9), some (34, false), [9, 34], []⟩,
    ⟨some 38, .bin .neq (.tmp 36) (.tmp 37), some (34, false), [36, 37, 34], []⟩,
    ⟨some 39, .pick (.tmp 34) (.const (.bool true)) (.tmp 38), none, [34, 38], []⟩] [3, 4, 5, 6, 8, 9, 39])
(.cond (.tmp 39)
(.seq (.reg false [⟨some 2, .mv (.const (.bool false)), none, [], []⟩] [2])
.ret)
.skip))
(.seq (.seq (.reg false [⟨some 40, .mv (.tmp 9), none, [9], []⟩,
    ⟨some 41, .bin .neq (.tmp 40) (.const (.int .i64 (0))), none, [40], []⟩] [3, 4, 5, 6, 8, 41])
(.cond (.tmp 41)
(.exit 0)
.skip))
(.seq (.reg false [⟨some 43, .load true 4 (.tmp 3), none, [3], []⟩,
    ⟨some 44, .load true 2 (.tmp 6), none, [6], []⟩,
    ⟨some 45, .call 33 [(.tmp 43), (.tmp 44)], none, [43, 44], []⟩,
    ⟨some 42, .mv (.tmp 45), none, [45], []⟩,
    ⟨some 46, .ext 0 (.tmp 42), none, [42], []⟩,
    ⟨some 47, .ext 1 (.tmp 42), none, [42], []⟩,
    ⟨some 10, .new 36 [(.slice none 0 0), (.slice none 0 0), (.slice none 0 0), (.int .i64 (0))], none, [], []⟩,
    ⟨none, .store 4 (.tmp 10) (.tmp 46), none, [10, 46], []⟩,
    ⟨some 11, .mv (.tmp 47), none, [47], []⟩] [3, 4, 5, 8, 10, 11])
(.seq (.reg false [⟨some 49, .load true 4 (.tmp 4), none, [4], []⟩,
    ⟨some 50, .load true 2 (.tmp 8), none, [8], []⟩,
    ⟨some 51, .call 35 [(.tmp 49), (.tmp 50)], none, [49, 50], []⟩,
    ⟨some 48, .mv (.tmp 51), none, [51], []⟩,
    ⟨some 52, .ext 0 (.tmp 48), none, [48], []⟩,
    ⟨some 53, .ext 1 (.tmp 48), none, [48], []⟩,
    ⟨some 12, .new 32 [(.slice none 0 0), (.slice none 0 0), (.slice none 0 0), (.int .i64 (0))], none, [], []⟩,
    ⟨none, .store 4 (.tmp 12) (.tmp 52), none, [12, 52], []⟩,
    ⟨some 13, .mv (.tmp 53), none, [53], []⟩] [3, 4, 5, 10, 11, 12, 13])
(.seq (.seq (.reg false [⟨some 54, .load true 4 (.tmp 10), none, [10], []⟩,
    ⟨some 55, .load true 4 (.tmp 12), none, [12], []⟩,
    ⟨some 56, .call 25 [(.tmp 54), (.tmp 55)], none, [54, 55], []⟩,
    ⟨some 57, .bin .neq (.tmp 56) (.const (.int .i64 (0))), none, [56], []⟩,
    ⟨some 58, .mv (.tmp 57), none, [57], []⟩,
    ⟨some 59, .mv (.tmp 11), some (58, false), [11, 58], []⟩,
    ⟨some 60, .call 17 [(.tmp 59)], some (58, false), [59, 58], []⟩,
    ⟨some 61, .mv (.tmp 13), some (58, false), [13, 58], []⟩,
    ⟨some 62, .bin .neq (.tmp 60) (.tmp 61), some (58, false), [60, 61, 58], []⟩,
    ⟨some 63, .pick (.tmp 58) (.const (.bool true)) (.tmp 62), none, [58, 62], []⟩] [3, 4, 5, 10, 12, 13, 63])
(.cond (.tmp 63)
(.seq (.reg false [⟨some 2, .mv (.const (.bool false)), none, [], []⟩] [2])
.ret)
.skip))
(.seq (.seq (.reg false [⟨some 64, .mv (.tmp 13), none, [13], []⟩,
    ⟨some 65, .bin .neq (.tmp 64) (.const (.int .i64 (0))), none, [64], []⟩] [3, 4, 5, 10, 12, 65])
(.cond (.tmp 65)
(.exit 0)
.skip))
(.reg true [⟨some 66, .load true 4 (.tmp 10), none, [10], []⟩,
    ⟨some 67, .load true 4 (.tmp 12), none, [12], []⟩,
    ⟨none, .store 4 (.tmp 3) (.tmp 66), none, [3, 66], [0]⟩,
    ⟨none, .store 4 (.tmp 4) (.tmp 67), none, [4, 67], [1, 2, 0]⟩] [3, 4, 5]))))))))))
(.reg false [⟨some 19, .mv (.tmp 5), none, [5], []⟩,
    ⟨some 20, .bin .add (.tmp 19) (.const (.int .i64 (1))), none, [19], []⟩,
    ⟨some 5, .mv (.tmp 20), none, [20], []⟩] [3, 4, 5]))))))
(.seq (.reg false [⟨some 68, .call 15 [], none, [], []⟩,
    ⟨some 2, .mv (.tmp 68), none, [68], []⟩] [2])
.ret))))
theorem ok_8 : FnOk Try.prog 8 69 ac_8 [.tmp 2] := ⟨Try.f8, Try.func8, by kernel_rfl, by kernel_rfl, by kernel_rfl, by kernel_rfl, by kernel_rfl⟩
end Go.Proofs.Ytfoeddmbhmfjcaa
/- CleanTells and CleanBest. -/
namespace Go.Proofs.Ytfoeddmbhmfjcaa
open Go.RowKit
set_option maxRecDepth 100000
theorem okSt_go : ∀ (l : List Blk) (t : St), okSt t → (∀ b ∈ l, okBlk b) → okSt (clGo l t).1
  | [], t, h, _ => h
  | b :: l, t, h, hb => by
    rw [clGo]
    split
    · exact okSt_go l _ (okSt_put h (hb b (by simp))) (fun c hc => hb c (by simp [hc]))
    · split
      · exact okSt_go l _ (okSt_put (okSt_seal h) (hb b (by simp))) (fun c hc => hb c (by simp [hc]))
      · exact okSt_zero
theorem okSt_cl {s : St} {slot seq : Int} (h : okSt s) : okSt (cl s slot seq).1 := by
  unfold cl
  split
  · split
    · split
      · unfold clFree
        split
        · refine okSt_free ?_
          unfold clPut
          split
          · unfold clEnd
            split
            · exact okSt_go _ _ h (live_blkok h)
            · split
              · exact okSt_seal (okSt_go _ _ h (live_blkok h))
              · exact okSt_zero
          · exact okSt_zero
        · exact okSt_zero
      · exact okSt_zero
    · exact okSt_zero
  · exact okSt_zero
set_option maxHeartbeats 4000000 in
theorem cleanTells_spec (fr : Bool) (s : St) (slot rseq seq live next : Int) (nb : Nat) (hok : okSt s) :
    ASound Try.prog 9 [aSt fr s, aRec slot rseq, .v (.int .i64 seq), .v (.int .i64 live), .v (.int .i64 next)] nb (.ret (.v (.bool true)) []) := by
  refine ok_9.sound (by simp) ⟨al_aSt s, ⟨trivial, trivial, trivial⟩, trivial, trivial, trivial, trivial⟩ ?_
  simp only [ac_9, aRec, SS, boxA, cellsOf, foffA, loadA, ldA, idxA, fldA, binA, binVal, isSh, intVal, lenA, slenA, pickA, storeA, setN, getN, fillA, extA, beqA, eqsA, eqL, isnilA, unA, unVal, convA, nilA, sconvA, b2sA, b2sOf, bytesOf, mmA, srcA, appA, sliceA, lohi, mkslA, envA, ↓reduceIte, Nat.reduceEqDiff, Nat.reduceAdd, Nat.reduceMul, reduceCtorEq, Nat.reduceLeDiff, fB, fBools, fBlks, fSegs, aBlk, aSg, aSt, stRow, List.drop_zero, List.take_succ_cons, List.take_zero, List.take_nil, Nat.mul_one, Nat.one_mul, List.cons_append, List.nil_append]
  refine ⟨_, ofSt_spec fr s _ (ok_sz hok), ?_⟩
  simp only [SS, boxA, cellsOf, foffA, loadA, ldA, idxA, fldA, binA, binVal, isSh, intVal, lenA, slenA, pickA, storeA, setN, getN, fillA, extA, beqA, eqsA, eqL, isnilA, unA, unVal, convA, nilA, sconvA, b2sA, b2sOf, bytesOf, mmA, srcA, appA, sliceA, lohi, mkslA, envA, ↓reduceIte, Nat.reduceEqDiff, Nat.reduceAdd, Nat.reduceMul, reduceCtorEq, Nat.reduceLeDiff, fB, fBools, fBlks, fSegs, aBlk, aSg, aSt, stRow, List.drop_zero, List.take_succ_cons, List.take_zero, List.take_nil, Nat.mul_one, Nat.one_mul, List.cons_append, List.nil_append]
  refine ⟨_, score_spec seq live next _, ?_⟩
  simp only [SS, boxA, cellsOf, foffA, loadA, ldA, idxA, fldA, binA, binVal, isSh, intVal, lenA, slenA, pickA, storeA, setN, getN, fillA, extA, beqA, eqsA, eqL, isnilA, unA, unVal, convA, nilA, sconvA, b2sA, b2sOf, bytesOf, mmA, srcA, appA, sliceA, lohi, mkslA, envA, ↓reduceIte, Nat.reduceEqDiff, Nat.reduceAdd, Nat.reduceMul, reduceCtorEq, Nat.reduceLeDiff, fB, fBools, fBlks, fSegs, aBlk, aSg, aSt, stRow, List.drop_zero, List.take_succ_cons, List.take_zero, List.take_nil, Nat.mul_one, Nat.one_mul, List.cons_append, List.nil_append]
  refine ⟨_, rscore_spec seq live next _, ?_⟩
  simp only [SS, boxA, cellsOf, foffA, loadA, ldA, idxA, fldA, binA, binVal, isSh, intVal, lenA, slenA, pickA, storeA, setN, getN, fillA, extA, beqA, eqsA, eqL, isnilA, unA, unVal, convA, nilA, sconvA, b2sA, b2sOf, bytesOf, mmA, srcA, appA, sliceA, lohi, mkslA, envA, ↓reduceIte, Nat.reduceEqDiff, Nat.reduceAdd, Nat.reduceMul, reduceCtorEq, Nat.reduceLeDiff, fB, fBools, fBlks, fSegs, aBlk, aSg, aSt, stRow, List.drop_zero, List.take_succ_cons, List.take_zero, List.take_nil, Nat.mul_one, Nat.one_mul, List.cons_append, List.nil_append]
  refine ⟨_, victim_A true s _ hok, ?_⟩
  simp only [SS, boxA, cellsOf, foffA, loadA, ldA, idxA, fldA, binA, binVal, isSh, intVal, lenA, slenA, pickA, storeA, setN, getN, fillA, extA, beqA, eqsA, eqL, isnilA, unA, unVal, convA, nilA, sconvA, b2sA, b2sOf, bytesOf, mmA, srcA, appA, sliceA, lohi, mkslA, envA, ↓reduceIte, Nat.reduceEqDiff, Nat.reduceAdd, Nat.reduceMul, reduceCtorEq, Nat.reduceLeDiff, fB, fBools, fBlks, fSegs, aBlk, aSg, aSt, stRow, List.drop_zero, List.take_succ_cons, List.take_zero, List.take_nil, Nat.mul_one, Nat.one_mul, List.cons_append, List.nil_append]
  refine ⟨_, rvictim_spec fr s _, ?_⟩
  simp only [SS, boxA, cellsOf, foffA, loadA, ldA, idxA, fldA, binA, binVal, isSh, intVal, lenA, slenA, pickA, storeA, setN, getN, fillA, extA, beqA, eqsA, eqL, isnilA, unA, unVal, convA, nilA, sconvA, b2sA, b2sOf, bytesOf, mmA, srcA, appA, sliceA, lohi, mkslA, envA, ↓reduceIte, Nat.reduceEqDiff, Nat.reduceAdd, Nat.reduceMul, reduceCtorEq, Nat.reduceLeDiff, fB, fBools, fBlks, fSegs, aBlk, aSg, aSt, stRow, List.drop_zero, List.take_succ_cons, List.take_zero, List.take_nil, Nat.mul_one, Nat.one_mul, List.cons_append, List.nil_append]
  refine ⟨_, clean_spec s slot rseq _ hok, ?_⟩
  simp only [SS, boxA, cellsOf, foffA, loadA, ldA, idxA, fldA, binA, binVal, isSh, intVal, lenA, slenA, pickA, storeA, setN, getN, fillA, extA, beqA, eqsA, eqL, isnilA, unA, unVal, convA, nilA, sconvA, b2sA, b2sOf, bytesOf, mmA, srcA, appA, sliceA, lohi, mkslA, envA, ↓reduceIte, Nat.reduceEqDiff, Nat.reduceAdd, Nat.reduceMul, reduceCtorEq, Nat.reduceLeDiff, fB, fBools, fBlks, fSegs, aBlk, aSg, aSt, stRow, List.drop_zero, List.take_succ_cons, List.take_zero, List.take_nil, Nat.mul_one, Nat.one_mul, List.cons_append, List.nil_append]
  refine ⟨_, rclean_spec fr s slot rseq _ hok, ?_⟩
  rw [cl_eq]
  simp only [SS, boxA, cellsOf, foffA, loadA, ldA, idxA, fldA, binA, binVal, isSh, intVal, lenA, slenA, pickA, storeA, setN, getN, fillA, extA, beqA, eqsA, eqL, isnilA, unA, unVal, convA, nilA, sconvA, b2sA, b2sOf, bytesOf, mmA, srcA, appA, sliceA, lohi, mkslA, envA, ↓reduceIte, Nat.reduceEqDiff, Nat.reduceAdd, Nat.reduceMul, reduceCtorEq, Nat.reduceLeDiff, fB, fBools, fBlks, fSegs, aBlk, aSg, aSt, stRow, List.drop_zero, List.take_succ_cons, List.take_zero, List.take_nil, Nat.mul_one, Nat.one_mul, List.cons_append, List.nil_append]
  refine ⟨_, room_spec true s _ hok, ?_⟩
  simp only [SS, boxA, cellsOf, foffA, loadA, ldA, idxA, fldA, binA, binVal, isSh, intVal, lenA, slenA, pickA, storeA, setN, getN, fillA, extA, beqA, eqsA, eqL, isnilA, unA, unVal, convA, nilA, sconvA, b2sA, b2sOf, bytesOf, mmA, srcA, appA, sliceA, lohi, mkslA, envA, ↓reduceIte, Nat.reduceEqDiff, Nat.reduceAdd, Nat.reduceMul, reduceCtorEq, Nat.reduceLeDiff, fB, fBools, fBlks, fSegs, aBlk, aSg, aSt, stRow, List.drop_zero, List.take_succ_cons, List.take_zero, List.take_nil, Nat.mul_one, Nat.one_mul, List.cons_append, List.nil_append]
  refine ⟨_, rroom_spec fr s _, ?_⟩
  simp only [SS, boxA, cellsOf, foffA, loadA, ldA, idxA, fldA, binA, binVal, isSh, intVal, lenA, slenA, pickA, storeA, setN, getN, fillA, extA, beqA, eqsA, eqL, isnilA, unA, unVal, convA, nilA, sconvA, b2sA, b2sOf, bytesOf, mmA, srcA, appA, sliceA, lohi, mkslA, envA, ↓reduceIte, Nat.reduceEqDiff, Nat.reduceAdd, Nat.reduceMul, reduceCtorEq, Nat.reduceLeDiff, fB, fBools, fBlks, fSegs, aBlk, aSg, aSt, stRow, List.drop_zero, List.take_succ_cons, List.take_zero, List.take_nil, Nat.mul_one, Nat.one_mul, List.cons_append, List.nil_append]
  refine ⟨_, num16_spec (scE seq live next) _, ?_⟩
  simp only [SS, boxA, cellsOf, foffA, loadA, ldA, idxA, fldA, binA, binVal, isSh, intVal, lenA, slenA, pickA, storeA, setN, getN, fillA, extA, beqA, eqsA, eqL, isnilA, unA, unVal, convA, nilA, sconvA, b2sA, b2sOf, bytesOf, mmA, srcA, appA, sliceA, lohi, mkslA, envA, ↓reduceIte, Nat.reduceEqDiff, Nat.reduceAdd, Nat.reduceMul, reduceCtorEq, Nat.reduceLeDiff, fB, fBools, fBlks, fSegs, aBlk, aSg, aSt, stRow, List.drop_zero, List.take_succ_cons, List.take_zero, List.take_nil, Nat.mul_one, Nat.one_mul, List.cons_append, List.nil_append]
  refine ⟨_, num16_spec (vicE s) _, ?_⟩
  simp only [SS, boxA, cellsOf, foffA, loadA, ldA, idxA, fldA, binA, binVal, isSh, intVal, lenA, slenA, pickA, storeA, setN, getN, fillA, extA, beqA, eqsA, eqL, isnilA, unA, unVal, convA, nilA, sconvA, b2sA, b2sOf, bytesOf, mmA, srcA, appA, sliceA, lohi, mkslA, envA, ↓reduceIte, Nat.reduceEqDiff, Nat.reduceAdd, Nat.reduceMul, reduceCtorEq, Nat.reduceLeDiff, fB, fBools, fBlks, fSegs, aBlk, aSg, aSt, stRow, List.drop_zero, List.take_succ_cons, List.take_zero, List.take_nil, Nat.mul_one, Nat.one_mul, List.cons_append, List.nil_append]
  refine ⟨_, alikeSt_spec true true (cl s slot rseq).1 (cl s slot rseq).1 _ (ok_sz (okSt_cl hok)), ?_⟩
  simp only [no01_t, SS, boxA, cellsOf, foffA, loadA, ldA, idxA, fldA, binA, binVal, isSh, intVal, lenA, slenA, pickA, storeA, setN, getN, fillA, extA, beqA, eqsA, eqL, isnilA, unA, unVal, convA, nilA, sconvA, b2sA, b2sOf, bytesOf, mmA, srcA, appA, sliceA, lohi, mkslA, envA, ↓reduceIte, Nat.reduceEqDiff, Nat.reduceAdd, Nat.reduceMul, reduceCtorEq, Nat.reduceLeDiff, fB, fBools, fBlks, fSegs, aBlk, aSg, aSt, stRow, List.drop_zero, List.take_succ_cons, List.take_zero, List.take_nil, Nat.mul_one, Nat.one_mul, List.cons_append, List.nil_append]
  refine ⟨_, num16_spec (cl s slot rseq).2 _, ?_⟩
  simp only [SS, boxA, cellsOf, foffA, loadA, ldA, idxA, fldA, binA, binVal, isSh, intVal, lenA, slenA, pickA, storeA, setN, getN, fillA, extA, beqA, eqsA, eqL, isnilA, unA, unVal, convA, nilA, sconvA, b2sA, b2sOf, bytesOf, mmA, srcA, appA, sliceA, lohi, mkslA, envA, ↓reduceIte, Nat.reduceEqDiff, Nat.reduceAdd, Nat.reduceMul, reduceCtorEq, Nat.reduceLeDiff, fB, fBools, fBlks, fSegs, aBlk, aSg, aSt, stRow, List.drop_zero, List.take_succ_cons, List.take_zero, List.take_nil, Nat.mul_one, Nat.one_mul, List.cons_append, List.nil_append]
  refine ⟨_, num16_spec (errOf (chk s)) _, ?_⟩
  simp only [SS, boxA, cellsOf, foffA, loadA, ldA, idxA, fldA, binA, binVal, isSh, intVal, lenA, slenA, pickA, storeA, setN, getN, fillA, extA, beqA, eqsA, eqL, isnilA, unA, unVal, convA, nilA, sconvA, b2sA, b2sOf, bytesOf, mmA, srcA, appA, sliceA, lohi, mkslA, envA, ↓reduceIte, Nat.reduceEqDiff, Nat.reduceAdd, Nat.reduceMul, reduceCtorEq, Nat.reduceLeDiff, fB, fBools, fBlks, fSegs, aBlk, aSg, aSt, stRow, List.drop_zero, List.take_succ_cons, List.take_zero, List.take_nil, Nat.mul_one, Nat.one_mul, List.cons_append, List.nil_append]
  refine ⟨_, alikeSt_spec true fr s s _ (ok_sz hok), ?_⟩
  simp only [no01_t, SS, boxA, cellsOf, foffA, loadA, ldA, idxA, fldA, binA, binVal, isSh, intVal, lenA, slenA, pickA, storeA, setN, getN, fillA, extA, beqA, eqsA, eqL, isnilA, unA, unVal, convA, nilA, sconvA, b2sA, b2sOf, bytesOf, mmA, srcA, appA, sliceA, lohi, mkslA, envA, ↓reduceIte, Nat.reduceEqDiff, Nat.reduceAdd, Nat.reduceMul, reduceCtorEq, Nat.reduceLeDiff, fB, fBools, fBlks, fSegs, aBlk, aSg, aSt, stRow, List.drop_zero, List.take_succ_cons, List.take_zero, List.take_nil, Nat.mul_one, Nat.one_mul, List.cons_append, List.nil_append]
  refine ⟨_, alive16_spec _, ?_⟩
  simp only [SS, boxA, cellsOf, foffA, loadA, ldA, idxA, fldA, binA, binVal, isSh, intVal, lenA, slenA, pickA, storeA, setN, getN, fillA, extA, beqA, eqsA, eqL, isnilA, unA, unVal, convA, nilA, sconvA, b2sA, b2sOf, bytesOf, mmA, srcA, appA, sliceA, lohi, mkslA, envA, ↓reduceIte, Nat.reduceEqDiff, Nat.reduceAdd, Nat.reduceMul, reduceCtorEq, Nat.reduceLeDiff, fB, fBools, fBlks, fSegs, aBlk, aSg, aSt, stRow, List.drop_zero, List.take_succ_cons, List.take_zero, List.take_nil, Nat.mul_one, Nat.one_mul, List.cons_append, List.nil_append]
  exact Ends.data (.inr rfl) (by simp [resL, resOne, tupOf, getN, s_envOf, s_envOf0, s_heapOf, s_heapOf0, s_put1, s_app0, s_app1]) trivial
abbrev L_best (q : Nat × St × Bool) : ASt := ⟨envOf [(3, .op 0 0), (4, .op 1 0), (5, .v (.int .i64 q.1))], heapOf [(0, stRow 36 true q.2.1), (1, stRow 32 q.2.2 q.2.1)], 2⟩
set_option maxHeartbeats 4000000 in
theorem cleanBest_spec (fr : Bool) (s : St) (nb : Nat) (hok : okSt s) : ASound Try.prog 8 [aSt fr s] nb (.ret (.v (.bool true)) []) := by
  refine ok_8.sound (by simp) ⟨al_aSt s, trivial⟩ ?_
  simp only [ac_8, SS, boxA, cellsOf, foffA, loadA, ldA, idxA, fldA, binA, binVal, isSh, intVal, lenA, slenA, pickA, storeA, setN, getN, fillA, extA, beqA, eqsA, eqL, isnilA, unA, unVal, convA, nilA, sconvA, b2sA, b2sOf, bytesOf, mmA, srcA, appA, sliceA, lohi, mkslA, envA, ↓reduceIte, Nat.reduceEqDiff, Nat.reduceAdd, Nat.reduceMul, reduceCtorEq, Nat.reduceLeDiff, fB, fBools, fBlks, fSegs, aBlk, aSg, aSt, stRow, List.drop_zero, List.take_succ_cons, List.take_zero, List.take_nil, Nat.mul_one, Nat.one_mul, List.cons_append, List.nil_append]
  refine ⟨_, ofSt_spec fr s _ (ok_sz hok), ?_⟩
  simp only [SS, boxA, cellsOf, foffA, loadA, ldA, idxA, fldA, binA, binVal, isSh, intVal, lenA, slenA, pickA, storeA, setN, getN, fillA, extA, beqA, eqsA, eqL, isnilA, unA, unVal, convA, nilA, sconvA, b2sA, b2sOf, bytesOf, mmA, srcA, appA, sliceA, lohi, mkslA, envA, ↓reduceIte, Nat.reduceEqDiff, Nat.reduceAdd, Nat.reduceMul, reduceCtorEq, Nat.reduceLeDiff, fB, fBools, fBlks, fSegs, aBlk, aSg, aSt, stRow, List.drop_zero, List.take_succ_cons, List.take_zero, List.take_nil, Nat.mul_one, Nat.one_mul, List.cons_append, List.nil_append]
  refine ⟨by rfl, ?_⟩
  refine AWc.family L_best (fun q => q.1 ≤ 12 ∧ okSt q.2.1) (fun q => 12 - q.1) (0, s, fr) ⟨Nat.zero_le _, hok⟩ ?_ ?_
  · refine Weak.calc [(320, 0), (384, 1)] (by decide) ?_ ?_ <;> simp [tk_B, tk_Bools, tk_Blks, tk_Segs, AlL_append, renL_append, okL, okH, rowIs, okV, okHV, rowVt, vtL, okF, okHF, rowFz, fzL, fzV, fzOne, nilLike, oldLike, rn, s_envOf, s_envOf0, s_heapOf, s_heapOf0, s_put, s_put0, s_put1, s_app0, s_app1, Al, AlL, ren, renL, al_B, al_Bools, al_Blks, al_Segs, ren_B, ren_Bools, ren_Blks, ren_Segs, fB, fBools, fBlks, fSegs]
  · rintro ⟨k, t, lb⟩ ⟨hk, hok⟩
    simp only at hk hok
    by_cases hlt : (k : Int) < 12
    · simp only [L_best, hlt, SS, boxA, cellsOf, foffA, loadA, ldA, idxA, fldA, binA, binVal, isSh, intVal, lenA, slenA, pickA, storeA, setN, getN, fillA, extA, beqA, eqsA, eqL, isnilA, unA, unVal, convA, nilA, sconvA, b2sA, b2sOf, bytesOf, mmA, srcA, appA, sliceA, lohi, mkslA, envA, ↓reduceIte, Nat.reduceEqDiff, Nat.reduceAdd, Nat.reduceMul, reduceCtorEq, Nat.reduceLeDiff, fB, fBools, fBlks, fSegs, aBlk, aSg, aSt, stRow, List.drop_zero, List.take_succ_cons, List.take_zero, List.take_nil, Nat.mul_one, Nat.one_mul, List.cons_append, List.nil_append]
      refine ⟨_, victim_A true t _ hok, ?_⟩
      simp only [SS, boxA, cellsOf, foffA, loadA, ldA, idxA, fldA, binA, binVal, isSh, intVal, lenA, slenA, pickA, storeA, setN, getN, fillA, extA, beqA, eqsA, eqL, isnilA, unA, unVal, convA, nilA, sconvA, b2sA, b2sOf, bytesOf, mmA, srcA, appA, sliceA, lohi, mkslA, envA, ↓reduceIte, Nat.reduceEqDiff, Nat.reduceAdd, Nat.reduceMul, reduceCtorEq, Nat.reduceLeDiff, fB, fBools, fBlks, fSegs, aBlk, aSg, aSt, stRow, List.drop_zero, List.take_succ_cons, List.take_zero, List.take_nil, Nat.mul_one, Nat.one_mul, List.cons_append, List.nil_append]
      refine ⟨_, rvictim_spec lb t _, ?_⟩
      simp only [SS, boxA, cellsOf, foffA, loadA, ldA, idxA, fldA, binA, binVal, isSh, intVal, lenA, slenA, pickA, storeA, setN, getN, fillA, extA, beqA, eqsA, eqL, isnilA, unA, unVal, convA, nilA, sconvA, b2sA, b2sOf, bytesOf, mmA, srcA, appA, sliceA, lohi, mkslA, envA, ↓reduceIte, Nat.reduceEqDiff, Nat.reduceAdd, Nat.reduceMul, reduceCtorEq, Nat.reduceLeDiff, fB, fBools, fBlks, fSegs, aBlk, aSg, aSt, stRow, List.drop_zero, List.take_succ_cons, List.take_zero, List.take_nil, Nat.mul_one, Nat.one_mul, List.cons_append, List.nil_append]
      refine ⟨_, num16_spec (vicE t) _, ?_⟩
      simp only [SS, boxA, cellsOf, foffA, loadA, ldA, idxA, fldA, binA, binVal, isSh, intVal, lenA, slenA, pickA, storeA, setN, getN, fillA, extA, beqA, eqsA, eqL, isnilA, unA, unVal, convA, nilA, sconvA, b2sA, b2sOf, bytesOf, mmA, srcA, appA, sliceA, lohi, mkslA, envA, ↓reduceIte, Nat.reduceEqDiff, Nat.reduceAdd, Nat.reduceMul, reduceCtorEq, Nat.reduceLeDiff, fB, fBools, fBlks, fSegs, aBlk, aSg, aSt, stRow, List.drop_zero, List.take_succ_cons, List.take_zero, List.take_nil, Nat.mul_one, Nat.one_mul, List.cons_append, List.nil_append]
      by_cases he : vicE t = 0
      · simp only [he, not_true, SS, boxA, cellsOf, foffA, loadA, ldA, idxA, fldA, binA, binVal, isSh, intVal, lenA, slenA, pickA, storeA, setN, getN, fillA, extA, beqA, eqsA, eqL, isnilA, unA, unVal, convA, nilA, sconvA, b2sA, b2sOf, bytesOf, mmA, srcA, appA, sliceA, lohi, mkslA, envA, ↓reduceIte, Nat.reduceEqDiff, Nat.reduceAdd, Nat.reduceMul, reduceCtorEq, Nat.reduceLeDiff, fB, fBools, fBlks, fSegs, aBlk, aSg, aSt, stRow, List.drop_zero, List.take_succ_cons, List.take_zero, List.take_nil, Nat.mul_one, Nat.one_mul, List.cons_append, List.nil_append]
        refine ⟨_, clean_spec t (vicR t).1 (vicR t).2.1 _ hok, ?_⟩
        simp only [SS, boxA, cellsOf, foffA, loadA, ldA, idxA, fldA, binA, binVal, isSh, intVal, lenA, slenA, pickA, storeA, setN, getN, fillA, extA, beqA, eqsA, eqL, isnilA, unA, unVal, convA, nilA, sconvA, b2sA, b2sOf, bytesOf, mmA, srcA, appA, sliceA, lohi, mkslA, envA, ↓reduceIte, Nat.reduceEqDiff, Nat.reduceAdd, Nat.reduceMul, reduceCtorEq, Nat.reduceLeDiff, fB, fBools, fBlks, fSegs, aBlk, aSg, aSt, stRow, List.drop_zero, List.take_succ_cons, List.take_zero, List.take_nil, Nat.mul_one, Nat.one_mul, List.cons_append, List.nil_append]
        refine ⟨_, rclean_spec lb t (vicR t).1 (vicR t).2.1 _ hok, ?_⟩
        rw [cl_eq]
        simp only [SS, boxA, cellsOf, foffA, loadA, ldA, idxA, fldA, binA, binVal, isSh, intVal, lenA, slenA, pickA, storeA, setN, getN, fillA, extA, beqA, eqsA, eqL, isnilA, unA, unVal, convA, nilA, sconvA, b2sA, b2sOf, bytesOf, mmA, srcA, appA, sliceA, lohi, mkslA, envA, ↓reduceIte, Nat.reduceEqDiff, Nat.reduceAdd, Nat.reduceMul, reduceCtorEq, Nat.reduceLeDiff, fB, fBools, fBlks, fSegs, aBlk, aSg, aSt, stRow, List.drop_zero, List.take_succ_cons, List.take_zero, List.take_nil, Nat.mul_one, Nat.one_mul, List.cons_append, List.nil_append]
        have hoc : okSt (cl t (vicR t).1 (vicR t).2.1).1 := okSt_cl hok
        generalize cl t (vicR t).1 (vicR t).2.1 = q at hoc ⊢
        obtain ⟨q1, q2⟩ := q
        refine ⟨_, alikeSt_spec true true q1 q1 _ (ok_sz hoc), ?_⟩
        simp only [no01_t, SS, boxA, cellsOf, foffA, loadA, ldA, idxA, fldA, binA, binVal, isSh, intVal, lenA, slenA, pickA, storeA, setN, getN, fillA, extA, beqA, eqsA, eqL, isnilA, unA, unVal, convA, nilA, sconvA, b2sA, b2sOf, bytesOf, mmA, srcA, appA, sliceA, lohi, mkslA, envA, ↓reduceIte, Nat.reduceEqDiff, Nat.reduceAdd, Nat.reduceMul, reduceCtorEq, Nat.reduceLeDiff, fB, fBools, fBlks, fSegs, aBlk, aSg, aSt, stRow, List.drop_zero, List.take_succ_cons, List.take_zero, List.take_nil, Nat.mul_one, Nat.one_mul, List.cons_append, List.nil_append]
        refine ⟨_, num16_spec q2 _, ?_⟩
        simp only [SS, boxA, cellsOf, foffA, loadA, ldA, idxA, fldA, binA, binVal, isSh, intVal, lenA, slenA, pickA, storeA, setN, getN, fillA, extA, beqA, eqsA, eqL, isnilA, unA, unVal, convA, nilA, sconvA, b2sA, b2sOf, bytesOf, mmA, srcA, appA, sliceA, lohi, mkslA, envA, ↓reduceIte, Nat.reduceEqDiff, Nat.reduceAdd, Nat.reduceMul, reduceCtorEq, Nat.reduceLeDiff, fB, fBools, fBlks, fSegs, aBlk, aSg, aSt, stRow, List.drop_zero, List.take_succ_cons, List.take_zero, List.take_nil, Nat.mul_one, Nat.one_mul, List.cons_append, List.nil_append]
        by_cases h2 : q2 = 0
        · simp only [h2, not_true, SS, boxA, cellsOf, foffA, loadA, ldA, idxA, fldA, binA, binVal, isSh, intVal, lenA, slenA, pickA, storeA, setN, getN, fillA, extA, beqA, eqsA, eqL, isnilA, unA, unVal, convA, nilA, sconvA, b2sA, b2sOf, bytesOf, mmA, srcA, appA, sliceA, lohi, mkslA, envA, ↓reduceIte, Nat.reduceEqDiff, Nat.reduceAdd, Nat.reduceMul, reduceCtorEq, Nat.reduceLeDiff, fB, fBools, fBlks, fSegs, aBlk, aSg, aSt, stRow, List.drop_zero, List.take_succ_cons, List.take_zero, List.take_nil, Nat.mul_one, Nat.one_mul, List.cons_append, List.nil_append]
          refine ⟨by rfl, famC_next (k + 1, q1, true) (by simp only; omega) ⟨by simp only; omega, hoc⟩ ?_⟩
          refine Weak.calc [(0, 0), (1, 1)] (by decide) ?_ ?_ <;> simp [tk_B, tk_Bools, tk_Blks, tk_Segs, AlL_append, renL_append, okL, okH, rowIs, okV, okHV, rowVt, vtL, okF, okHF, rowFz, fzL, fzV, fzOne, nilLike, oldLike, rn, s_envOf, s_envOf0, s_heapOf, s_heapOf0, s_put, s_put0, s_put1, s_app0, s_app1, Al, AlL, ren, renL, al_B, al_Bools, al_Blks, al_Segs, ren_B, ren_Bools, ren_Blks, ren_Segs, fB, fBools, fBlks, fSegs, wrap64 (x := (k : Int) + 1) (by omega)]
        · simp only [h2, not_false_eq_true, SS, boxA, cellsOf, foffA, loadA, ldA, idxA, fldA, binA, binVal, isSh, intVal, lenA, slenA, pickA, storeA, setN, getN, fillA, extA, beqA, eqsA, eqL, isnilA, unA, unVal, convA, nilA, sconvA, b2sA, b2sOf, bytesOf, mmA, srcA, appA, sliceA, lohi, mkslA, envA, ↓reduceIte, Nat.reduceEqDiff, Nat.reduceAdd, Nat.reduceMul, reduceCtorEq, Nat.reduceLeDiff, fB, fBools, fBlks, fSegs, aBlk, aSg, aSt, stRow, List.drop_zero, List.take_succ_cons, List.take_zero, List.take_nil, Nat.mul_one, Nat.one_mul, List.cons_append, List.nil_append]
          refine ⟨_, alive16_spec _, ?_⟩
          simp only [SS, boxA, cellsOf, foffA, loadA, ldA, idxA, fldA, binA, binVal, isSh, intVal, lenA, slenA, pickA, storeA, setN, getN, fillA, extA, beqA, eqsA, eqL, isnilA, unA, unVal, convA, nilA, sconvA, b2sA, b2sOf, bytesOf, mmA, srcA, appA, sliceA, lohi, mkslA, envA, ↓reduceIte, Nat.reduceEqDiff, Nat.reduceAdd, Nat.reduceMul, reduceCtorEq, Nat.reduceLeDiff, fB, fBools, fBlks, fSegs, aBlk, aSg, aSt, stRow, List.drop_zero, List.take_succ_cons, List.take_zero, List.take_nil, Nat.mul_one, Nat.one_mul, List.cons_append, List.nil_append]
          exact Ends.data (.inr rfl) (by simp [resL, resOne, tupOf, getN, s_envOf, s_envOf0, s_heapOf, s_heapOf0, s_put1, s_app0, s_app1]) trivial
      · simp only [he, not_false_eq_true, SS, boxA, cellsOf, foffA, loadA, ldA, idxA, fldA, binA, binVal, isSh, intVal, lenA, slenA, pickA, storeA, setN, getN, fillA, extA, beqA, eqsA, eqL, isnilA, unA, unVal, convA, nilA, sconvA, b2sA, b2sOf, bytesOf, mmA, srcA, appA, sliceA, lohi, mkslA, envA, ↓reduceIte, Nat.reduceEqDiff, Nat.reduceAdd, Nat.reduceMul, reduceCtorEq, Nat.reduceLeDiff, fB, fBools, fBlks, fSegs, aBlk, aSg, aSt, stRow, List.drop_zero, List.take_succ_cons, List.take_zero, List.take_nil, Nat.mul_one, Nat.one_mul, List.cons_append, List.nil_append]
        refine ⟨_, alive16_spec _, ?_⟩
        simp only [SS, boxA, cellsOf, foffA, loadA, ldA, idxA, fldA, binA, binVal, isSh, intVal, lenA, slenA, pickA, storeA, setN, getN, fillA, extA, beqA, eqsA, eqL, isnilA, unA, unVal, convA, nilA, sconvA, b2sA, b2sOf, bytesOf, mmA, srcA, appA, sliceA, lohi, mkslA, envA, ↓reduceIte, Nat.reduceEqDiff, Nat.reduceAdd, Nat.reduceMul, reduceCtorEq, Nat.reduceLeDiff, fB, fBools, fBlks, fSegs, aBlk, aSg, aSt, stRow, List.drop_zero, List.take_succ_cons, List.take_zero, List.take_nil, Nat.mul_one, Nat.one_mul, List.cons_append, List.nil_append]
        exact Ends.data (.inr rfl) (by simp [resL, resOne, tupOf, getN, s_envOf, s_envOf0, s_heapOf, s_heapOf0, s_put1, s_app0, s_app1]) trivial
    · simp only [L_best, hlt, SS, boxA, cellsOf, foffA, loadA, ldA, idxA, fldA, binA, binVal, isSh, intVal, lenA, slenA, pickA, storeA, setN, getN, fillA, extA, beqA, eqsA, eqL, isnilA, unA, unVal, convA, nilA, sconvA, b2sA, b2sOf, bytesOf, mmA, srcA, appA, sliceA, lohi, mkslA, envA, ↓reduceIte, Nat.reduceEqDiff, Nat.reduceAdd, Nat.reduceMul, reduceCtorEq, Nat.reduceLeDiff, fB, fBools, fBlks, fSegs, aBlk, aSg, aSt, stRow, List.drop_zero, List.take_succ_cons, List.take_zero, List.take_nil, Nat.mul_one, Nat.one_mul, List.cons_append, List.nil_append]
      refine ⟨_, alive16_spec _, ?_⟩
      simp only [SS, boxA, cellsOf, foffA, loadA, ldA, idxA, fldA, binA, binVal, isSh, intVal, lenA, slenA, pickA, storeA, setN, getN, fillA, extA, beqA, eqsA, eqL, isnilA, unA, unVal, convA, nilA, sconvA, b2sA, b2sOf, bytesOf, mmA, srcA, appA, sliceA, lohi, mkslA, envA, ↓reduceIte, Nat.reduceEqDiff, Nat.reduceAdd, Nat.reduceMul, reduceCtorEq, Nat.reduceLeDiff, fB, fBools, fBlks, fSegs, aBlk, aSg, aSt, stRow, List.drop_zero, List.take_succ_cons, List.take_zero, List.take_nil, Nat.mul_one, Nat.one_mul, List.cons_append, List.nil_append]
      exact Ends.data (.inr rfl) (by simp [resL, resOne, tupOf, getN, s_envOf, s_envOf0, s_heapOf, s_heapOf0, s_put1, s_app0, s_app1]) trivial
end Go.Proofs.Ytfoeddmbhmfjcaa
/- A cleaning's record as a row's argument. -/
namespace Go.Proofs.Ytfoeddmbhmfjcaa
open Go.RowKit
set_option maxRecDepth 100000
theorem rdt_rec : Rd Try.prog 71 (fun _ (r : Int × Int) => [.v (.int .i64 r.1), .v (.int .i64 r.2)]) (fun _ => True) :=
  (rd_struct Try.underlying71 (by kernel_rfl) (RdF.cons (c := 1) rfl (by kernel_rfl) rdt_num (RdF.cons (c := 1) rfl (by kernel_rfl) rdt_num RdF.nil))).map
    (fun x => (x.1, x.2.1)) (fun b => (b.1, b.2, ())) (fun fr b => rfl) (fun fr b => rfl) fun a h => trivial
theorem open_rec {H : Type} {enc : TypeId × Value → H} {W : World} {base : Nat} {v : Value} {d : DataW H} {ps : List MemPlace} (hv : Value.okWide Try.prog W .any base 71 v) (h : DataW.Trod enc Try.prog W 0 (fun _ => true) true 71 v d ps)
    (hw : (d.weights Try.prog 71).all (· ≤ reachBytes) = true) : ∃ a b, VR (cx0 W) (aRec a b) v := by
  simp only [Value.okWide, Try.underlying71] at hv
  obtain ⟨cs, rfl, _, _⟩ := hv
  obtain ⟨fuel, h⟩ := h
  obtain ⟨⟨a, b⟩, h1, h2⟩ := rdt_rec.rd h hw
  refine ⟨a, b, ?_⟩
  rw [aRec, VR]
  exact ⟨_, rfl, h2⟩
end Go.Proofs.Ytfoeddmbhmfjcaa
