/- Merged texts: WO, KJ, WP, WQ, WR, WS, WT, WU, WW, WX, KK, WY, WZ, RB, AZ, Z0, Z1, Y2, Y6, Z2, RC, Y9, KL, Z3. -/
import Derived.Test.YtdenddhdeloceaaGreatDoorX3
import Derived.Test.YtdenddhdeloceaaGreatDoorX1
import Derived.Test.YtdenddhdeloceaaGreatDoorProg
import Derived.Test.YtdenddhdeloceaaGreatDoorRows
import Derived.LaidLaws
import Derived.LaidHandle
import Derived.LaidMore
import Derived.Lay
import Derived.Stop.Joined
import Derived.Test.YtdenddhdeloceaaGreatDoorX2
set_option linter.unusedSimpArgs false
set_option linter.unusedVariables false
namespace Go.Proofs.YtdenddhdeloceaaGreatDoor
open Go.RowKit Go.Shelf
attribute [local go_sem] Oper.semAt_some
set_option maxRecDepth 100000
theorem bw_spec (fr : Bool) (l : List Wr) (nb : Nat) :
    ASound Tryz.prog 104 [fWrs fr l] nb (.ret (.fn 123 [.fp true [fWrs fr l] 0]) []) := by
  refine ok_104.sound (by simp) ⟨al_Wrs l, trivial⟩ ?_
  simp only [ac_104, TT, ↓reduceIte, Nat.reduceEqDiff, Nat.reduceAdd, Nat.reduceMul, reduceCtorEq, Nat.reduceLeDiff]
  refine Ends.weak (Weak.fnData 2 123 [.op 0 0] [.fp true [fWrs fr l] 0] (by simp [s_envOf]) rfl ?_) (Ends.data (.inr rfl) (by simp [ET]; rfl) ⟨⟨al_Wrs l, trivial⟩, trivial⟩)
  intro j x' hj
  match j, hj with
  | 0, hj => cases hj; exact ⟨_, rfl, .inr ⟨0, true, 48, [fWrs fr l], 0, rfl, by simp [WT], ⟨al_Wrs l, trivial⟩, rfl⟩⟩
  | j + 1, hj => simp at hj
set_option maxHeartbeats 4000000 in
theorem bw_in (l : Nat) (p1 : Addr) (b off : Nat) (A : Option Addr) (K cap : Nat) (hsz : K ≤ 9223372036854775807) (hcap : K ≤ cap) (hA : K ≠ 0 → A = some ⟨b, off, none⟩)
    (sec : Nat → Int) (sA : Nat → Option Addr) (sn sk : Nat → Nat)
    (J Jx : List (_root_.Fin K) → World → Prop) (Kp : World → World → Prop) (hKp : ∀ B C, Kp B C → C.cell? p1 = B.cell? p1 ∧ ∀ j, j < 2 * K → C.cell? ⟨b, off + j, none⟩ = B.cell? ⟨b, off + j, none⟩)
    (W : World) (hJ : AbidesFrom W.heap.size J) (hJx : AbidesFrom W.heap.size Jx)
    (hY : ∀ pre (x : _root_.Fin K) W1, J pre W1 → pre.length < K → YieldAt Fence.wide 1 Tryz.prog l #[.int .i64 ((K - 1 - x.1 : Nat) : Int), .agg #[.int .i64 (sec (K - 1 - x.1)), .slice (sA (K - 1 - x.1)) (sn (K - 1 - x.1)) (sk (K - 1 - x.1))]] W1 fun e W' => (e = .returned (.bool true) ∧ J (pre ++ [x]) W' ∧ Kp W1 W') ∨ (e = .returned (.bool false) ∧ Jx (pre ++ [x]) W'))
    (h1 : W.cell? p1 = some (.slice A K cap)) (h2 : ∀ j, j < K → W.cell? ⟨b, off + 2 * j, none⟩ = some (.int .i64 (sec j)) ∧ W.cell? ⟨b, off + 2 * j + 1, none⟩ = some (.slice (sA j) (sn j) (sk j))) (hj : J [] W) :
    CallsIn Fence.wide 2 Tryz.prog 123 #[.func (.yield l) #[] #[], .pointer (some p1)] W fun e W' => (∃ v, e = .returned v) ∧
      ((∃ xs, xs = List.finRange K ∧ J xs W') ∨ (∃ pre, (∃ k, k < K ∧ pre = (List.finRange K).take (k + 1)) ∧ Jx pre W')) := by
  have H1 := Lib.hid h1
  have H2 := Lib.hid h2
  have HY := Lib.hid hY
  have HJ := Lib.hid hJ
  have Hj := Lib.hid hj
  have HK := Lib.hid hKp
  have y1 := h1
  clear h1 h2 hY hJ hJx hj hKp
  refine callsIn_of_wp Tryz.func123 rfl trivial ?_ rfl
  simp only [Tryz.ntmps123, List.size_toArray, List.length_cons, List.length_nil, Nat.reduceAdd, Nat.reduceSub, Array.replicate_succ, Array.replicate_zero, List.push_toArray, List.append_toArray, List.nil_append, List.cons_append]
  gi_wp2
  clear y1
  gi_loopw [3] (fun i wr => ∃ j : Nat, j ≤ K ∧ i = .int .i64 ((K : Int) - 1 - j) ∧ Hid (J ((List.finRange K).take j) wr) ∧ Hid (wr.cell? p1 = some (.slice A K cap)) ∧ Hid (∀ j, j < K → wr.cell? ⟨b, off + 2 * j, none⟩ = some (.int .i64 (sec j)) ∧ wr.cell? ⟨b, off + 2 * j + 1, none⟩ = some (.slice (sA j) (sn j) (sk j)))) (fun i _ => (intOf i + 1).toNat)
  case atStart => exact ⟨0, Nat.zero_le _, by simp, Hj, H1, H2⟩
  case round =>
    obtain ⟨j, hjk, rfl, HJs, G1, G2⟩ := hrel
    have y1 := G1.out
    by_cases hlt : j < K
    · obtain ⟨q, hq⟩ : ∃ q : Nat, q = K - 1 - j := ⟨_, rfl⟩
      have HQ := Lib.hid hq
      obtain ⟨z0, z1⟩ := G2.out q (by omega)
      have hA' := hA (by omega)
      subst hA'
      rw [show (K : Int) - 1 - j = (q : Int) from by omega]
      obtain ⟨x, hxv, hxl⟩ : ∃ x : _root_.Fin K, x.1 = j ∧ (List.finRange K).take (j + 1) = (List.finRange K).take j ++ [x] :=
        ⟨⟨j, hlt⟩, rfl, by rw [List.take_succ_eq_append_getElem (by simpa using hlt)]; simp⟩
      have HX := Lib.hid hxl
      obtain ⟨fn, tmps, assign, body, hy, hR⟩ := HY.out _ x wr HJs.out (by simp; omega)
      rw [hxv, ← hq] at hy
      have HR := Lib.hid hR
      have HYY := Lib.hid hy
      have hqK : q < K := by omega
      have e1 : decide ((0 : Int) ≤ (q : Int)) = true := by simp
      have e2 : off + q * 2 = off + 2 * q := by omega
      clear hR hy hq hxl hxv hA
      gi_wp2_with fail
      rw [HYY.out, Oper.uponIn_round]
      clear y1 z0 z1
      refine ⟨fun h => (by cases h), HR.out.mono ?_⟩
      rintro e W3 (⟨rfl, hJ3, hk3⟩ | ⟨rfl, hJx3⟩)
      · have k1 := Lib.hid ((HK.out _ _ hk3).1.trans G1.out)
        have k2 := Lib.hid (show ∀ j, j < K → W3.cell? ⟨b, off + 2 * j, none⟩ = some (.int .i64 (sec j)) ∧ W3.cell? ⟨b, off + 2 * j + 1, none⟩ = some (.slice (sA j) (sn j) (sk j)) from fun i hi =>
          ⟨((HK.out _ _ hk3).2 (2 * i) (by omega)).trans (G2.out i hi).1, ((HK.out _ _ hk3).2 (2 * i + 1) (by omega)).trans (G2.out i hi).2⟩)
        have HJ3 := Lib.hid hJ3
        clear hJ3 hk3
        gi_wp2_with fail
        go_roundw
        case rel => exact ⟨j + 1, hlt, by have := HQ.out; congr 1; omega, by rw [HX.out]; exact HJ3.out, k1, k2⟩
        case measure => simp [intOf]
      · gi_wp2_with fail
        refine bodyPost_ret (results_none rfl _ _ _) rfl ?_
        exact ⟨⟨_, rfl⟩, .inr ⟨_, ⟨j, hlt, HX.out.symm⟩, hJx3⟩⟩
    · obtain rfl : j = K := by omega
      rw [show (j : Int) - 1 - j = -1 from by omega]
      have e1 : decide ((0 : Int) ≤ -1) = false := by decide
      gi_wp2_with fail
      go_end0
      exact ⟨⟨_, rfl⟩, .inl ⟨_, rfl, by have := HJs.out; rwa [List.take_of_length_le (by simp)] at this⟩⟩
/-- what is yielded -/
def bwL (fr : Bool) (l : List Wr) : List (List AV) := (List.range l.length).map fun k => [.v (.int .i64 ((l.length - 1 - k : Nat) : Int)), .agg [.v (.int .i64 ((l[l.length - 1 - k]?).getD ⟨0, []⟩).sec), fB fr ((l[l.length - 1 - k]?).getD ⟨0, []⟩).data]]
theorem bwL_len (fr : Bool) (l : List Wr) : (bwL fr l).length = l.length := by simp [bwL]
theorem bwL_get (fr : Bool) (l : List Wr) (i : _root_.Fin (bwL fr l).length) : (bwL fr l)[i] = [.v (.int .i64 ((l.length - 1 - i.1 : Nat) : Int)), .agg [.v (.int .i64 ((l[l.length - 1 - i.1]?).getD ⟨0, []⟩).sec), fB fr ((l[l.length - 1 - i.1]?).getD ⟨0, []⟩).data]] := by
  have : ∀ (k : Nat) (hk : k < (bwL fr l).length), (bwL fr l)[k] = [.v (.int .i64 ((l.length - 1 - k : Nat) : Int)), .agg [.v (.int .i64 ((l[l.length - 1 - k]?).getD ⟨0, []⟩).sec), fB fr ((l[l.length - 1 - k]?).getD ⟨0, []⟩).data]] := fun k hk => by simp [bwL]
  exact this i.1 i.2
theorem bw_iter (fr f1 : Bool) (l : List Wr) (hsz : l.length ≤ 4398046511104) :
    IterA Tryz.prog 123 [.fp f1 [fWrs fr l] 0] (bwL fr l) := by
  refine ⟨by rfl, fun c lb hr hv => ?_⟩
  simp only [VRt] at hv
  obtain ⟨u1, us, rfl, h1, rfl⟩ := hv
  rw [VR] at h1
  obtain ⟨b1, o1, rfl, hlt1, ho1, hm1⟩ := h1
  simp only [VRm, Nat.add_zero] at hm1
  obtain ⟨⟨v1, hc1, _, hv1⟩, _⟩ := hm1
  rw [fWrs, VR] at hv1
  obtain ⟨A, k, rfl, hk, hA⟩ := hv1
  -- where the writes lie
  obtain ⟨b, off, hAb, hb⟩ : ∃ b off, (l.length ≠ 0 → A = some ⟨b, off, none⟩) ∧ (l.length ≠ 0 → b < c.w.heap.size ∧ c.ok fr b ∧ VRm c b off (eWrs fr l)) := by
    by_cases h0 : l.length = 0
    · exact ⟨0, 0, fun h => absurd h0 h, fun h => absurd h0 h⟩
    · obtain ⟨b, off, e, q⟩ := hA h0
      exact ⟨b, off, fun _ => e, fun _ => q⟩
  have cell : ∀ j, j < l.length → ∃ sA sn sk, c.w.cell? ⟨b, off + 2 * j, none⟩ = some (.int .i64 ((l[j]?).getD ⟨0, []⟩).sec) ∧ c.w.cell? ⟨b, off + 2 * j + 1, none⟩ = some (.slice sA sn sk) ∧ VR c (fB fr ((l[j]?).getD ⟨0, []⟩).data) (.slice sA sn sk) := by
    intro j hj
    obtain ⟨_, _, hm⟩ := hb (by omega)
    obtain ⟨w, hw⟩ : ∃ w, l[j]? = some w := ⟨_, List.getElem?_eq_getElem hj⟩
    obtain ⟨g1, g2⟩ := get_Wrs (fr := fr) hw
    rw [VRm_iff] at hm
    obtain ⟨x1, a1, _, a2⟩ := hm _ _ g1
    obtain ⟨x2, b1, _, b2⟩ := hm _ _ g2
    have e1 : x1 = .int .i64 w.sec := a2
    subst e1
    have b2' := b2
    rw [VR] at b2
    obtain ⟨sA, sk, rfl, _⟩ := b2
    refine ⟨sA, w.data.length, sk, ?_, ?_, ?_⟩
    · rw [hw]; rw [Nat.mul_comm]; exact a1
    · rw [show off + 2 * j + 1 = off + (j * 2 + 1) from by omega]; exact b1
    · rw [hw]; exact b2'
  obtain ⟨sA, hsA⟩ : ∃ sA : Nat → Option Addr, ∀ j, j < l.length → ∃ sn sk, c.w.cell? ⟨b, off + 2 * j, none⟩ = some (.int .i64 ((l[j]?).getD ⟨0, []⟩).sec) ∧ c.w.cell? ⟨b, off + 2 * j + 1, none⟩ = some (.slice (sA j) sn sk) ∧ VR c (fB fr ((l[j]?).getD ⟨0, []⟩).data) (.slice (sA j) sn sk) := by
    classical
    exact ⟨fun j => if h : j < l.length then (cell j h).choose else none, fun j h => by simp only [dif_pos h]; exact (cell j h).choose_spec⟩
  obtain ⟨sn, hsn⟩ : ∃ sn : Nat → Nat, ∀ j, j < l.length → ∃ sk, c.w.cell? ⟨b, off + 2 * j, none⟩ = some (.int .i64 ((l[j]?).getD ⟨0, []⟩).sec) ∧ c.w.cell? ⟨b, off + 2 * j + 1, none⟩ = some (.slice (sA j) (sn j) sk) ∧ VR c (fB fr ((l[j]?).getD ⟨0, []⟩).data) (.slice (sA j) (sn j) sk) := by
    classical
    exact ⟨fun j => if h : j < l.length then (hsA j h).choose else 0, fun j h => by simp only [dif_pos h]; exact (hsA j h).choose_spec⟩
  obtain ⟨sk, hsk⟩ : ∃ sk : Nat → Nat, ∀ j, j < l.length → c.w.cell? ⟨b, off + 2 * j, none⟩ = some (.int .i64 ((l[j]?).getD ⟨0, []⟩).sec) ∧ c.w.cell? ⟨b, off + 2 * j + 1, none⟩ = some (.slice (sA j) (sn j) (sk j)) ∧ VR c (fB fr ((l[j]?).getD ⟨0, []⟩).data) (.slice (sA j) (sn j) (sk j)) := by
    classical
    exact ⟨fun j => if h : j < l.length then (hsn j h).choose else 0, fun j h => by simp only [dif_pos h]; exact (hsn j h).choose_spec⟩
  have hlen : ∀ i : _root_.Fin (bwL fr l).length, i.1 < l.length := fun i => Nat.lt_of_lt_of_eq i.2 (bwL_len fr l)
  refine ⟨fun i => [.int .i64 (((bwL fr l).length - 1 - i.1 : Nat) : Int), .agg #[.int .i64 ((l[(bwL fr l).length - 1 - i.1]?).getD ⟨0, []⟩).sec, .slice (sA ((bwL fr l).length - 1 - i.1)) (sn ((bwL fr l).length - 1 - i.1)) (sk ((bwL fr l).length - 1 - i.1))]], fun i => ?_, ?_⟩
  · rw [bwL_get]
    have hi := hlen i
    have ee : (bwL fr l).length - 1 - i.1 = l.length - 1 - i.1 := by have := bwL_len fr l; omega
    simp only [ee]
    obtain ⟨q1, q2, q3⟩ := hsk (l.length - 1 - i.1) (by omega)
    simp only [VRt]
    refine ⟨_, _, rfl, rfl, _, _, rfl, ?_, rfl⟩
    rw [VR]
    refine ⟨[_, _], rfl, ?_⟩
    rw [VRl]
    refine ⟨_, _, rfl, rfl, rfl, ?_⟩
    rw [VRl]
    exact ⟨_, _, rfl, rfl, q3, rfl⟩
  · intro l' J Jx W hW hJ hJx hY hj
    refine bw_in l' ⟨b1, o1, none⟩ b off A (bwL fr l).length k (by rw [bwL_len]; omega) (by rw [bwL_len]; exact hk) (by rw [bwL_len]; exact hAb) (fun j => ((l[j]?).getD ⟨0, []⟩).sec) sA sn sk J Jx (Kc c) (fun B C hK => ⟨?_, fun j hj => ?_⟩) W hJ hJx hY ?_ (fun j hj => ?_) hj
    · exact World.cell?_of_block (hK b1 hlt1 ho1.2.1 (fun h => absurd h ho1.2.2))
    · rw [bwL_len] at hj
      obtain ⟨q1, q2, _⟩ := hb (by omega)
      exact World.cell?_of_block (hK b q1 q2.2.1 (fun h => absurd h q2.2.2))
    · rw [bwL_len]; exact (World.cell?_of_block (hW.block b1 hlt1)).trans hc1
    · rw [bwL_len] at hj
      obtain ⟨q1, q2, _⟩ := hb (by omega)
      obtain ⟨g1, g2, _⟩ := hsk j hj
      exact ⟨(World.cell?_of_block (hW.block b q1)).trans g1, (World.cell?_of_block (hW.block b q1)).trans g2⟩
end Go.Proofs.YtdenddhdeloceaaGreatDoor
namespace Go.Proofs.YtdenddhdeloceaaGreatDoor
set_option maxRecDepth 100000
def ac_51 : AC :=
(.seq (.reg false [⟨some 3, .box 50 (.tmp 0), none, [0], []⟩,
    ⟨some 4, .box 3 (.tmp 1), none, [1], []⟩,
    ⟨some 6, .new 50 [(.slice none 0 0), (.slice none 0 0)], none, [], []⟩] [2, 3, 4, 6])
(.seq (.reg false [⟨some 10, .load true 2 (.tmp 3), none, [3], []⟩,
    ⟨some 11, .call 87 [(.tmp 10)], none, [10], []⟩,
    ⟨some 7, .new 50 [(.slice none 0 0), (.slice none 0 0)], none, [], []⟩,
    ⟨none, .store 2 (.tmp 7) (.tmp 11), none, [7, 11], []⟩] [2, 4, 6, 7])
(.seq (.seq (.reg false [⟨some 12, .mv (.tmp 2), none, [2], []⟩,
    ⟨some 13, .call 88 [(.tmp 12), (.const (.int .i64 (64)))], none, [12], []⟩] [4, 6, 7, 13])
(.block 0 (.rfunc (.tmp 13) [14] [(8, (.tmp 14))]
(.block 1 (.seq (.reg false [⟨some 15, .mksl 5 1 1 [(.int .u8 (0))] (.const (.int .i64 (64))) (.const (.int .i64 (64))), none, [], []⟩,
    ⟨some 9, .mv (.tmp 15), none, [15], []⟩] [4, 7, 8, 9])
(.seq (.reg false [⟨some 16, .mv (.tmp 9), none, [9], []⟩,
    ⟨some 17, .mv (.tmp 8), none, [8], []⟩,
    ⟨some 18, .copy (.tmp 16) (.tmp 17), none, [16, 17], []⟩] [4, 7, 9])
(.seq (.reg false [⟨some 19, .foff 1 (.tmp 7), none, [7], []⟩,
    ⟨some 20, .load false 1 (.tmp 19), none, [19], []⟩,
    ⟨some 21, .load false 1 (.tmp 4), none, [4], []⟩,
    ⟨some 22, .mv (.tmp 9), none, [9], []⟩,
    ⟨some 23, .build [(.int .i64 (0)), (.slice none 0 0)] [(0, 1, (.tmp 21)), (1, 1, (.tmp 22))], none, [21, 22], []⟩,
    ⟨some 24, .bslice 90 2 1 [(.int .i64 (0)), (.slice none 0 0)] [(0, 2, (.tmp 23))], none, [23], []⟩,
    ⟨some 25, .append 90 2 32 (.tmp 20) (.tmp 24), none, [20, 24], []⟩,
    ⟨some 26, .foff 1 (.tmp 7), none, [7], []⟩,
    ⟨none, .store 1 (.tmp 26) (.tmp 25), none, [26, 25], []⟩] [4])
(.reg false [⟨some 27, .load false 1 (.tmp 4), none, [4], []⟩,
    ⟨some 28, .bin .add (.tmp 27) (.const (.int .i64 (1))), none, [27], []⟩,
    ⟨none, .store 1 (.tmp 4) (.tmp 28), none, [4, 28], []⟩] []))))))))
(.seq (.reg false [⟨some 29, .load true 2 (.tmp 7), none, [7], []⟩,
    ⟨none, .store 2 (.tmp 6) (.tmp 29), none, [6, 29], []⟩] [6])
.ret))))
theorem ok_51 : FnOk Tryz.prog 51 30 ac_51 [.cell 6 true 2] := ⟨Tryz.f51, Tryz.func51, by kernel_rfl, by kernel_rfl, by kernel_rfl, by kernel_rfl, by kernel_rfl⟩
def ac_81 : AC :=
(.seq (.reg false [⟨some 2, .box 50 (.tmp 0), none, [0], []⟩,
    ⟨some 3, .box 3 (.tmp 1), none, [1], []⟩,
    ⟨some 4, .new 22 [(.slice none 0 0)], none, [], []⟩] [2, 3, 4])
(.seq (.seq (.reg false [⟨some 7, .foff 1 (.tmp 2), none, [2], []⟩,
    ⟨some 8, .load false 1 (.tmp 7), none, [7], []⟩,
    ⟨some 9, .call 104 [(.tmp 8)], none, [8], []⟩] [2, 3, 4, 9])
(.block 0 (.rfuncC (.tmp 9) [10, 11] (.reg false [⟨some 6, .new 90 [(.int .i64 (0)), (.slice none 0 0)], none, [], []⟩,
    ⟨none, .store 2 (.tmp 6) (.tmp 11), none, [6, 11], []⟩] [3, 4, 6])
(.block 1 (.seq (.reg false [⟨some 12, .foff 0 (.tmp 6), none, [6], []⟩,
    ⟨some 13, .load false 1 (.tmp 12), none, [12], []⟩,
    ⟨some 14, .load false 1 (.tmp 3), none, [3], []⟩,
    ⟨some 15, .bin .eql (.tmp 13) (.tmp 14), none, [13, 14], []⟩] [4, 6, 15])
(.cond (.tmp 15)
(.seq (.reg false [⟨some 16, .foff 1 (.tmp 6), none, [6], []⟩,
    ⟨some 17, .load false 1 (.tmp 16), none, [16], []⟩,
    ⟨none, .store 1 (.tmp 4) (.tmp 17), none, [4, 17], []⟩] [])
.ret)
.skip))))))
(.seq (.reg false [⟨some 18, .foff 0 (.tmp 2), none, [2], []⟩,
    ⟨some 19, .load false 1 (.tmp 18), none, [18], []⟩,
    ⟨some 20, .load false 1 (.tmp 3), none, [3], []⟩,
    ⟨some 21, .idx 1 (.tmp 19) (.tmp 20), none, [19, 20], []⟩,
    ⟨some 22, .load false 1 (.tmp 21), none, [21], []⟩,
    ⟨none, .store 1 (.tmp 4) (.tmp 22), none, [4, 22], []⟩] [4])
.ret)))
theorem ok_81 : FnOk Tryz.prog 81 23 ac_81 [.cell 4 false 1] := ⟨Tryz.f81, Tryz.func81, by kernel_rfl, by kernel_rfl, by kernel_rfl, by kernel_rfl, by kernel_rfl⟩
end Go.Proofs.YtdenddhdeloceaaGreatDoor
namespace Go.Proofs.YtdenddhdeloceaaGreatDoor
open Go.RowKit
set_option maxRecDepth 100000
theorem lastB_none {base : List Int} {k : Int} {l : List Wr} (h : ∀ w ∈ l, w.sec ≠ k) : lastB base k l = base := by
  induction l with
  | nil => rfl
  | cons w l ih =>
    show lastB (if w.sec = k then w.data else base) k l = base
    rw [if_neg (h w (by simp))]
    exact ih fun x hx => h x (by simp [hx])
theorem lastB_found {base : List Int} {k : Int} {l : List Wr} {j : Nat} {w : Wr} (h : l[j]? = some w) (hw : w.sec = k) (ha : ∀ (i : Nat) x, j < i → l[i]? = some x → x.sec ≠ k) : lastB base k l = w.data := by
  have hs : l = l.take (j + 1) ++ l.drop (j + 1) := (List.take_append_drop _ _).symm
  have h1 := lastB_snoc (base := base) (k := k) h
  rw [if_pos hw] at h1
  have h2 : ∀ x ∈ l.drop (j + 1), x.sec ≠ k := fun x hx => by
    obtain ⟨i, hi⟩ := List.mem_iff_getElem?.1 hx
    rw [List.getElem?_drop] at hi
    exact ha _ x (by omega) hi
  have h3 : ∀ b : List Int, lastB b k (l.drop (j + 1)) = b := fun b => lastB_none h2
  rw [hs]
  show (l.take (j + 1) ++ l.drop (j + 1)).foldl _ base = w.data
  rw [List.foldl_append]
  exact (h3 _).trans h1
abbrev hLst (fr : Bool) (d : Dk) (k : Nat) : List (Nat × AObj) := [(0, .row true 50 [fL fr d.sectors, fWrs fr d.cache]), (1, .row true 3 [.v (.int .i64 k)]), (2, .row true 22 [.v (.slice none 0 0)])]
abbrev L_lst (fr : Bool) (d : Dk) (k : Nat) : ASt := ⟨envOf [(2, .op 0 0), (3, .op 1 0), (4, .op 2 0), (9, .fn 123 [.fp true [fWrs fr d.cache] 0])],
  heapOf (hLst fr d k), 3⟩
abbrev L_lsa (fr : Bool) (d : Dk) (k : Nat) (w : Wr) : ASt := ⟨envOf [(3, .op 1 0), (4, .op 2 0), (6, .op 3 0)],
  heapOf [(0, .row true 50 [fL fr d.sectors, fWrs fr d.cache]), (1, .row true 3 [.v (.int .i64 k)]), (2, .row true 22 [.v (.slice none 0 0)]), (3, .row true 90 [.v (.int .i64 w.sec), fB fr w.data])], 4⟩
theorem drop_lst (fr : Bool) (d : Dk) (k : Nat) (w : Wr) : Weak 23 3 (L_lsa fr d k w) ⟨fun _ => .any, heapOf (hLst fr d k), 3⟩ := by
  show Weak 23 3 _ ⟨envOf [], heapOf (hLst fr d k), 3⟩
  refine Weak.calc [(0, 0), (1, 1), (2, 2)] (by decide) ?_ ?_ <;> simp [WT, fWrs, fL, al_L, al_Wrs]
def wAt (d : Dk) (i : Nat) : Wr := (d.cache[d.cache.length - 1 - i]?).getD ⟨0, []⟩
set_option maxHeartbeats 2000000 in
theorem last_spec (fr : Bool) (d : Dk) (k : Nat) (base : List Int) (nb : Nat) (hk : d.sectors[k]? = some base) (h3 : d.cache.length ≤ 4398046511104) :
    ASound Tryz.prog 81 [aDk fr d, .v (.int .i64 k)] nb (.ret (fB fr (lastB base k d.cache)) []) := by
  refine ok_81.sound (by simp) ⟨al_aDk d, trivial, trivial⟩ ?_
  have hlt := (List.getElem?_eq_some_iff.1 hk).1
  have c1 : ((0 : Int) ≤ (k : Int) ∧ (k : Int) < (d.sectors.length : Int)) = True := eq_true ⟨by omega, by omega⟩
  have hb := bw_spec fr d.cache
  simp only [fWrs] at hb
  simp only [ac_81, TT, ↓reduceIte, Nat.reduceEqDiff, Nat.reduceAdd, Nat.reduceMul, reduceCtorEq, Nat.reduceLeDiff]
  refine ⟨_, hb _, ?_⟩
  simp only [TT, ↓reduceIte, Nat.reduceEqDiff, Nat.reduceAdd, Nat.reduceMul, reduceCtorEq, Nat.reduceLeDiff]
  refine AWc.weak (s' := L_lst fr d k) (Weak.calc [(0, 0), (100000, 1), (200000, 2)] (by decide) ?_ ?_) ?_
  · simp [WT, fWrs]
  · simp [WT]
  refine AWc.rangeC 3 (by omega) (Nat.le_refl 3) (by simp [WT, evA]) (bw_iter fr true d.cache h3) rfl rfl (fun l hl => ?_) (AlN.env (by simp [AlL, Al, fWrs, al_Wrs])) (fun i => L_lsa fr d k (wAt d i.1)) (fun i => (by decide : 3 ≤ 4))
    (fun e i σ nx => e = .ret ∧ (wAt d i.1).sec = k ∧ σ 2 = some (.row true 22 [fB fr (wAt d i.1).data])) (fun i => (wAt d i.1).sec ≠ k) (fun i => ?_) (fun i => ?_) (fun hall => ?_) (fun j e σ nx hpre hx => ?_)
  · obtain ⟨i, hi, rfl⟩ := List.mem_map.1 hl
    exact ⟨AlNL.of (by simp [AlL, Al, fB, al_B]), rfl⟩
  · rw [bwL_get]
    simp only [L_lst, bindP, TT, ↓reduceIte, Nat.reduceEqDiff, Nat.reduceAdd, Nat.reduceMul, reduceCtorEq, Nat.reduceLeDiff]
    refine ⟨?_, ?_⟩
    · refine Weak.calc [(0, 0), (1, 1), (2, 2), (3, 3)] (by decide) ?_ ?_ <;> simp [WT, wAt]
    · exact drop_lst fr d k (wAt d i.1)
  · by_cases hs : (wAt d i.1).sec = (k : Int)
    · simp only [L_lsa, hs, TT, ↓reduceIte, Nat.reduceEqDiff, Nat.reduceAdd, Nat.reduceMul, reduceCtorEq, Nat.reduceLeDiff]
      exact ⟨rfl, by simp [WT]⟩
    · simp only [L_lsa, hs, TT, ↓reduceIte, Nat.reduceEqDiff, Nat.reduceAdd, Nat.reduceMul, reduceCtorEq, Nat.reduceLeDiff]
      refine ⟨hs, ?_⟩
      show Weak 23 3 _ ⟨envOf [], heapOf (hLst fr d k), 3⟩
      refine Weak.calc [(0, 0), (1, 1), (2, 2)] (by decide) ?_ ?_ <;> simp [WT]
  · have hn : lastB base k d.cache = base := lastB_none fun w hw => by
      obtain ⟨i, hi⟩ := List.mem_iff_getElem?.1 hw
      have hil := (List.getElem?_eq_some_iff.1 hi).1
      have := hall ⟨d.cache.length - 1 - i, by rw [bwL_len]; omega⟩
      unfold wAt at this
      rw [show d.cache.length - 1 - (d.cache.length - 1 - i) = i from by omega, hi] at this
      exact this
    rw [hn]
    simp only [L_lst, c1, Int.toNat_natCast, get_L hk, TT, ↓reduceIte, Nat.reduceEqDiff, Nat.reduceAdd, Nat.reduceMul, reduceCtorEq, Nat.reduceLeDiff]
    exact Ends.data (.inr rfl) (by simp [ET]) (al_fB base)
  · obtain ⟨rfl, h1, h2⟩ := hx
    have hjl : j.1 < d.cache.length := Nat.lt_of_lt_of_eq j.2 (bwL_len fr d.cache)
    have hw : d.cache[d.cache.length - 1 - j.1]? = some (wAt d j.1) := by
      unfold wAt; rw [List.getElem?_eq_getElem (by omega)]; rfl
    have hf : lastB base k d.cache = (wAt d j.1).data := lastB_found hw h1 fun i x hi hx => by
      have hil := (List.getElem?_eq_some_iff.1 hx).1
      have := hpre ⟨d.cache.length - 1 - i, by rw [bwL_len]; omega⟩ (by show d.cache.length - 1 - i < j.1; omega)
      unfold wAt at this
      rw [show d.cache.length - 1 - (d.cache.length - 1 - i) = i from by omega, hx] at this
      exact this
    rw [hf]
    simp only [L_lst, TT, ↓reduceIte, Nat.reduceEqDiff, Nat.reduceAdd, Nat.reduceMul, reduceCtorEq, Nat.reduceLeDiff]
    exact Ends.data (.inr rfl) (by simp [ET, h2]; rfl) (al_fB _)
end Go.Proofs.YtdenddhdeloceaaGreatDoor
namespace Go.Proofs.YtdenddhdeloceaaGreatDoor
open Go.RowKit
set_option maxRecDepth 100000
abbrev L_gall (fr : Bool) (d : Dk) (s n i : Nat) : ASt := ⟨envOf [(1, .v (.int .i64 s)), (3, .op 0 0), (9, .os 1 0 (getD d s i).length 1), (21, .v (.int .i64 n)), (22, .v (.int .i64 i))],
  heapOf [(0, .row true 50 [fL fr d.sectors, fWrs fr d.cache]), (1, .row true 5 (eB (getD d s i)))], 2⟩
set_option maxHeartbeats 1000000 in
theorem getAll_ok (fr : Bool) (d : Dk) (s n : Nat) (nb : Nat) (h : okD d) (hs : s + n ≤ d.sectors.length) :
    ASound Tryz.prog 46 [aDk fr d, .v (.int .i64 s), .v (.int .i64 n)] nb (.ret (.tup [fB true (getD d s n), .v (.int .i64 0)]) []) := by
  have hf := h.few
  have hc := dcheck_spec fr d
  rw [dkE_ok h] at hc
  have hr := room_spec fr d s n
  have hrt : decide ((0 : Int) ≤ s ∧ (0 : Int) ≤ n ∧ (s : Int) ≤ d.sectors.length ∧ (n : Int) ≤ d.sectors.length - s) = true := by
    rw [decide_eq_true_eq]; omega
  rw [hrt] at hr
  simp only [aDk, fL, fWrs] at hc hr
  refine ok_46.sound (by simp) ⟨al_aDk d, trivial, trivial, trivial⟩ ?_
  simp only [ac_46, TT, ↓reduceIte, Nat.reduceEqDiff, Nat.reduceAdd, Nat.reduceMul, reduceCtorEq, Nat.reduceLeDiff]
  refine ⟨_, hc _ (by omega), ?_⟩
  simp only [not_true_eq_false, TT, ↓reduceIte, Nat.reduceEqDiff, Nat.reduceAdd, Nat.reduceMul, reduceCtorEq, Nat.reduceLeDiff]
  refine ⟨_, hr _ (by omega) (by omega), ?_⟩
  simp only [TT, ↓reduceIte, Nat.reduceEqDiff, Nat.reduceAdd, Nat.reduceMul, reduceCtorEq, Nat.reduceLeDiff]
  refine AWc.family (L_gall fr d s n) (fun i => i ≤ n) (fun i => n - i) 0 (Nat.zero_le _) ?_ ?_
  · refine Weak.trans (Weak.virtC 5 1 (l := [(1, .v (.int .i64 s)), (3, .op 0 0), (9, .os 1600000 0 0 1), (21, .v (.int .i64 n)), (22, .v (.int .i64 0))])
      (h := [(0, .row true 50 [fL fr d.sectors, fWrs fr d.cache])]) ?_ ?_) (Weak.calc [(0, 0), (1600000, 1)] (by decide) ?_ ?_)
    all_goals simp [WT, show getD d s 0 = [] from rfl, eB_nil]
  · intro i hi
    by_cases hlt : i < n
    · have e1 : ((i : Int) < (n : Int)) := by omega
      have w2 : IntKind.i64.wrap ((s : Int) + (i : Int)) = ((s + i : Nat) : Int) := by rw [wrap64 (by omega)]; omega
      have hk : s + i < d.sectors.length := by omega
      have hl := last_spec fr d (s + i) (d.sectors[s + i])
      have hsa : lastB (d.sectors[s + i]) ((s + i : Nat) : Int) d.cache = secAt d (s + i) := by unfold secAt; rw [List.getElem?_eq_getElem hk]; rfl
      rw [hsa] at hl
      simp only [aDk, fB, fL, fWrs] at hl
      have hlen := getD_len h s i (by omega)
      have hsl := secAt_len h hk
      have hcs : eB (getD d s i) ++ eB (secAt d (s + i)) = eB (getD d s (i + 1)) := by rw [getD_s, app_B]
      have hn : (getD d s i).length + (secAt d (s + i)).length = (getD d s (i + 1)).length := by rw [getD_s, List.length_append]
      simp only [L_gall, e1, w2, TT, ↓reduceIte, Nat.reduceEqDiff, Nat.reduceAdd, Nat.reduceMul, reduceCtorEq, Nat.reduceLeDiff]
      refine ⟨_, hl _ (List.getElem?_eq_getElem hk) (by omega), ?_⟩
      simp only [len_B, hcs, hn, TT, ↓reduceIte, Nat.reduceEqDiff, Nat.reduceAdd, Nat.reduceMul, reduceCtorEq, Nat.reduceLeDiff]
      rw [if_pos (by omega)]
      refine famC_next (i + 1) (by omega) (by omega) ?_
      refine Weak.calc [(0, 0), (900002, 1)] (by decide) ?_ ?_ <;> simp [WT, wrap64 (x := (i : Int) + 1) (by omega)]
    · obtain rfl : i = n := by omega
      have e1 : ¬ ((i : Int) < (i : Int)) := by omega
      simp only [L_gall, e1, TT, ↓reduceIte, Nat.reduceEqDiff, Nat.reduceAdd, Nat.reduceMul, reduceCtorEq, Nat.reduceLeDiff]
      refine Ends.weak (Weak.freezeC 1 rfl (l := [(6, fB true (getD d s i)), (7, .v (.int .i64 0))]) (h := []) ?_ ?_) (Ends.data (.inr rfl) (by simp [ET, fB]) ⟨al_B _, trivial, trivial⟩)
      · simp [WT]
      · simp [WT]
end Go.Proofs.YtdenddhdeloceaaGreatDoor
namespace Go.Proofs.YtdenddhdeloceaaGreatDoor
open Go.RowKit
set_option maxRecDepth 100000
/-- the i-th part of 64 octets -/
def chk (data : List Int) (i : Nat) : List Int := (data.drop (i * 64)).take (min 64 (data.length - i * 64))
def putW (s : Int) (data : List Int) (l : List Nat) : List Wr := l.zipIdx.map fun q => ⟨s + q.2, pad 64 (chk data q.1)⟩
theorem putW_snoc (s : Int) (data : List Int) (l : List Nat) (i : Nat) : putW s data (l ++ [i]) = putW s data l ++ [⟨s + l.length, pad 64 (chk data i)⟩] := by
  unfold putW
  rw [List.zipIdx_append, List.map_append]
  simp
theorem putW_len (s : Int) (data : List Int) (l : List Nat) : (putW s data l).length = l.length := by simp [putW]
theorem chk_le (data : List Int) (i : Nat) : (chk data i).length ≤ 64 := by simp [chk]; omega
theorem chk_len (data : List Int) (i : Nat) : (chk data i).length = min 64 (data.length - i * 64) := by simp [chk]
/-- the disk with octets put on it, a sector after another -/
def putG (d : Dk) (s : Int) (data : List Int) : Dk := ⟨d.sectors, d.cache ++ putW s data (List.range (chK data.length 64))⟩
abbrev hPt (d : Dk) (s : Int) (data : List Int) (pre : List Nat) : List (Nat × AObj) := [(0, .row true 3 [.v (.int .i64 (s + pre.length))]), (1, zP),
  (2, .row true 50 [fL true d.sectors, .os 3 0 (d.cache ++ putW s data pre).length 2]), (3, .row true 90 (eWrs true (d.cache ++ putW s data pre)))]
abbrev L_put (fk : Bool) (d : Dk) (s : Int) (data : List Int) : ASt := ⟨envOf [(4, .op 0 0), (6, .op 1 0), (7, .op 2 0), (13, .fn 109 [.fp true [fB fk data] 0, .fp true [.v (.int .i64 64)] 0])], heapOf (hPt d s data []), 4⟩
theorem chk_cells (fk : Bool) (data : List Int) (i : Nat) : AV.fs fk (((eB data).drop (i * 64)).take (min 64 (data.length - i * 64))) (min 64 (data.length - i * 64)) = fB fk (chk data i) := by
  rw [drop_B, take_B, fB, chk_len]; rfl
set_option maxHeartbeats 4000000 in
theorem put_spec (fr fk : Bool) (d : Dk) (s : Int) (data : List Int) (nb : Nat) (h : okD d) (hs : -4096 ≤ s ∧ s ≤ 4096) (hd : data.length ≤ 140737488355328) :
    ASound Tryz.prog 51 [aDk fr d, .v (.int .i64 s), fB fk data] nb (.ret (aDk true (putG d s data)) []) := by
  have hf := h.few
  have hK : chK data.length 64 ≤ 2199023255552 := by unfold chK; omega
  refine ok_51.sound (by simp) ⟨al_aDk d, trivial, al_fB data, trivial⟩ ?_
  have hc := clone_put fr d
  have hk := chunk_spec fk (eB data) data.length 64 (by decide) (al_B data)
  simp only [aDk, fL, fWrs] at hc
  simp only [ac_51, TT, ↓reduceIte, Nat.reduceEqDiff, Nat.reduceAdd, Nat.reduceMul, reduceCtorEq, Nat.reduceLeDiff]
  refine ⟨_, hc _ h, ?_⟩
  simp only [TT, ↓reduceIte, Nat.reduceEqDiff, Nat.reduceAdd, Nat.reduceMul, reduceCtorEq, Nat.reduceLeDiff]
  refine ⟨_, hk _, ?_⟩
  simp only [TT, ↓reduceIte, Nat.reduceEqDiff, Nat.reduceAdd, Nat.reduceMul, reduceCtorEq, Nat.reduceLeDiff]
  refine AWc.weak (s' := L_put fk d s data) (Weak.calc [(100000, 0), (200000, 1), (500000, 2), (400000, 3)] (by decide) ?_ ?_) ?_
  · simp [WT]
  · simp [WT, putW, fL, ren_L, al_L, al_Wrs, ren_Wrs]
  refine AWc.range 3 (by omega) (by simp [WT, evA]) (chunk_iter fk true true (eB data) data.length 64 (by decide) (by omega) (len_B data)) rfl (fun l hl => ?_) (AlN.env (by simp [AlL, Al, fB, al_B]))
    (fun pre => (heapOf (hPt d s data (pre.map (·.1))), 4)) rfl (fun pre => (by decide : 3 ≤ 4)) (fun _ _ _ _ => False) (fun pre i hpl => ?_) ?_ (fun j e σ nx _ hx => hx.elim)
  · obtain ⟨i, hi, rfl⟩ := List.mem_map.1 hl
    exact ⟨AlNL.of (by simp [AlL, Al, ← List.map_drop, drop_B, take_B, al_B]), rfl⟩
  · rw [chL_get, chk_cells]
    have hil : i.1 < chK data.length 64 := Nat.lt_of_lt_of_eq i.2 (chL_len _ _ _ _)
    have hpl' : (pre.map (·.1)).length < chK data.length 64 := by rw [List.length_map]; exact Nat.lt_of_lt_of_eq hpl (chL_len _ _ _ _)
    obtain ⟨P, hP⟩ : ∃ P, P = pre.map (·.1) := ⟨_, rfl⟩
    obtain ⟨j, hj⟩ : ∃ j, j = i.1 := ⟨_, rfl⟩
    have hPj : (pre ++ [i]).map (·.1) = P ++ [j] := by rw [List.map_append, hP, hj]; rfl
    rw [← hP, ← hj]
    rw [← hP] at hpl'
    simp only [L_put, bindP, mvE, rep_B, len_B, TT, ↓reduceIte, Nat.reduceEqDiff, Nat.reduceAdd, Nat.reduceMul, reduceCtorEq, Nat.reduceLeDiff]
    have t6 : Int.toNat 64 = 64 := rfl
    have hcl := chk_le data j
    have hm : (chk data j).length.min 64 = (chk data j).length := Nat.min_eq_left hcl
    have htk : List.take (chk data j).length (eB (chk data j)) = eB (chk data j) := List.take_of_length_le (by rw [len_B]; exact Nat.le_refl _)
    have hpl2 : (pad 64 (chk data j)).length = 64 := pad_len hcl
    have hwl : (d.cache ++ putW s data P).length = d.cache.length + P.length := by rw [List.length_append, putW_len]
    have hsn : setN (eB (List.replicate 64 0)) 0 (eB (chk data j)) = eB (pad 64 (chk data j)) := by
      rw [setN_B (by rw [List.length_replicate]; omega), pad_rep]
    have hcs : eWrs true (d.cache ++ putW s data P) ++ [.v (.int .i64 (s + P.length)), .fs true (eB (pad 64 (chk data j))) 64] = eWrs true (d.cache ++ putW s data (P ++ [j])) := by
      rw [putW_snoc, ← List.append_assoc, app_Wrs]
      congr 1
      simp [eWrs, eWr, fB, hpl2]
    simp only [t6, hm, htk, hsn]
    rw [if_pos (by decide), if_pos (by simp), if_pos ⟨len_Wrs _, by rw [hwl]; omega⟩]
    have hw := wrap64 (x := s + (P.length : Int) + 1) (by omega)
    show Weak 30 3 _ ⟨envOf [], heapOf (hPt d s data ((pre ++ [i]).map (fun x => x.1))), 4⟩
    rw [hPj, hw]
    refine Weak.trans (Weak.freezeC 4 rfl (l := []) (h := [(0, .row true 3 [.v (.int .i64 (s + P.length + 1))]), (1, zP), (2, .row true 50 [fL true d.sectors, .os 1100004 0 ((d.cache ++ putW s data P).length + 1) 2]),
      (1100004, .row true 90 (eWrs true (d.cache ++ putW s data P) ++ [.v (.int .i64 (s + P.length)), .fs true (eB (pad 64 (chk data j))) 64]))]) ?_ ?_) ?_
    · simp [WT]
    · have htz : List.take 64 (eB (pad 64 (chk data j))) = eB (pad 64 (chk data j)) := List.take_of_length_le (by rw [len_B, hpl2]; exact Nat.le_refl _)
      have hle : (eWrs true (d.cache ++ putW s data P)).length = (d.cache ++ putW s data P).length * 2 := len_Wrs _
      simp [WT, htz, fL]
      refine .inr ⟨(d.cache ++ putW s data P).length * 2 + 1, 64, 1, ?_, ?_⟩
      · rw [List.getElem?_append_right (by omega), hle, show (d.cache ++ putW s data P).length * 2 + 1 - (d.cache ++ putW s data P).length * 2 = 1 from by omega]; rfl
      · rw [List.set_append, if_neg (by omega), hle, show (d.cache ++ putW s data P).length * 2 + 1 - (d.cache ++ putW s data P).length * 2 = 1 from by omega]; simp [htz]
    · rw [hcs]
      refine Weak.calc [(0, 0), (1, 1), (2, 2), (1100004, 3)] (by decide) ?_ ?_ <;> simp [WT, fL]
      rw [putW_len, putW_len]
      refine ⟨by omega, by simp; omega⟩
  · have hz : (List.finRange (chL fk (eB data) data.length 64).length).map (fun x => x.1) = List.range (chK data.length 64) := by
      rw [chL_len]; apply List.ext_getElem <;> simp
    rw [hz]
    have hg : d.cache ++ putW s data (List.range (chK data.length 64)) = (putG d s data).cache := rfl
    simp only [L_put, hPt, hg, TT, ↓reduceIte, Nat.reduceEqDiff, Nat.reduceAdd, Nat.reduceMul, reduceCtorEq, Nat.reduceLeDiff]
    refine Ends.weak (Weak.freezeC 3 rfl (l := [(6, .op 1 0)]) (h := [(1, .row true 50 [fL true d.sectors, fWrs true (putG d s data).cache])]) ?_ ?_) (Ends.data (.inr rfl) (by simp [ET]; exact ⟨rfl, rfl⟩) (al_aDk _))
    · simp [WT]
    · have htk : List.take ((putG d s data).cache.length * 2) (eWrs true (putG d s data).cache) = eWrs true (putG d s data).cache := List.take_of_length_le (by rw [len_Wrs]; exact Nat.le_refl _)
      simp [WT, htk]
end Go.Proofs.YtdenddhdeloceaaGreatDoor
namespace Go.Proofs.YtdenddhdeloceaaGreatDoor
open Go.RowKit
set_option maxRecDepth 100000
noncomputable def putAllD (d : Dk) (s : Int) (data : List Int) : Dk × Int := if dkE d ≠ 0 then (dk0, dkE d) else if ¬ ((0 : Int) ≤ s ∧ (0 : Int) ≤ (chK data.length 64 : Int) ∧ s ≤ d.sectors.length ∧ (chK data.length 64 : Int) ≤ d.sectors.length - s) then (dk0, 41)
  else if (4096 - d.cache.length : Int) < (chK data.length 64 : Int) then (dk0, 51) else (putG d s data, 0)
theorem dkE_cases (d : Dk) : (dkE d = 0 ∧ okD d) ∨ (dkE d = 9 ∧ ¬ okD d) := by
  by_cases h : okD d
  · exact .inl ⟨dkE_ok h, h⟩
  · exact .inr ⟨dkE_no h, h⟩
set_option maxHeartbeats 2000000 in
theorem putAll_spec (fr fk : Bool) (d : Dk) (s : Int) (data : List Int) (nb : Nat) (hl : d.sectors.length ≤ 140737488355328) (hs : s ≤ 4096 ∧ -4096 ≤ s) (hd : data.length ≤ 140737488355328) :
    ASound Tryz.prog 28 [aDk fr d, .v (.int .i64 s), fB fk data] nb (.ret (.tup [aDk true (putAllD d s data).1, .v (.int .i64 (putAllD d s data).2)]) []) := by
  refine ok_28.sound (by simp) ⟨al_aDk d, trivial, al_fB data, trivial⟩ ?_
  have hc := dcheck_spec fr d
  simp only [aDk, fL, fWrs] at hc
  simp only [ac_28, TT, ↓reduceIte, Nat.reduceEqDiff, Nat.reduceAdd, Nat.reduceMul, reduceCtorEq, Nat.reduceLeDiff]
  refine ⟨_, hc _ hl, ?_⟩
  rcases dkE_cases d with ⟨hE, hok⟩ | ⟨hE, hok⟩
  · have hf := hok.few
    have x1 : IntKind.i64.wrap ((data.length : Int) + 64) = (data.length : Int) + 64 := wrap64 (by omega)
    have x2 : IntKind.i64.wrap ((data.length : Int) + 64 - 1) = (data.length : Int) + 64 - 1 := wrap64 (by omega)
    have z64 : ((64 : Int) = 0) = False := eq_false (by decide)
    have hK : chK data.length 64 ≤ 2199023255552 := by unfold chK; omega
    have x3 : IntKind.i64.wrap (Int.tdiv ((data.length : Int) + 64 - 1) 64) = (chK data.length 64 : Int) := by
      rw [show (data.length : Int) + 64 - 1 = ((data.length + 64 - 1 : Nat) : Int) from by omega, show (64 : Int) = ((64 : Nat) : Int) from rfl, Int.tdiv_eq_ediv_of_nonneg (by omega), ← Int.natCast_ediv, wrap64 (by have := hK; unfold chK at this; omega)]
      rfl
    have hr := room_spec fr d s (chK data.length 64 : Int)
    simp only [aDk, fL, fWrs] at hr
    rw [hE]
    simp only [not_true_eq_false, x1, x2, x3, z64, TT, ↓reduceIte, Nat.reduceEqDiff, Nat.reduceAdd, Nat.reduceMul, reduceCtorEq, Nat.reduceLeDiff]
    refine ⟨_, hr _ (by omega) hs, ?_⟩
    by_cases hroom : (0 : Int) ≤ s ∧ (0 : Int) ≤ (chK data.length 64 : Int) ∧ s ≤ d.sectors.length ∧ (chK data.length 64 : Int) ≤ d.sectors.length - s
    · simp only [decide_eq_true hroom, TT, ↓reduceIte, Nat.reduceEqDiff, Nat.reduceAdd, Nat.reduceMul, reduceCtorEq, Nat.reduceLeDiff]
      have x4 : IntKind.i64.wrap (4096 - (d.cache.length : Int)) = 4096 - (d.cache.length : Int) := wrap64 (by omega)
      by_cases hfull : (4096 - d.cache.length : Int) < (chK data.length 64 : Int)
      · have hp : putAllD d s data = (dk0, 51) := by unfold putAllD; rw [if_neg (by rw [hE]; simp), if_neg (by simpa using hroom), if_pos hfull]
        rw [hp]
        simp only [x4, hfull, TT, ↓reduceIte, Nat.reduceEqDiff, Nat.reduceAdd, Nat.reduceMul, reduceCtorEq, Nat.reduceLeDiff]
        exact Ends.imp (r0 := .tup [dz, .v (.int .i64 51)]) (.inr rfl) (by simp [ET]) (al_dz _) (imp_dk0 _)
      · have hp : putAllD d s data = (putG d s data, 0) := by unfold putAllD; rw [if_neg (by rw [hE]; simp), if_neg (by simpa using hroom), if_neg hfull]
        have hps := put_spec fr fk d s data
        simp only [aDk, fB, fL, fWrs] at hps
        rw [hp]
        simp only [x4, hfull, TT, ↓reduceIte, Nat.reduceEqDiff, Nat.reduceAdd, Nat.reduceMul, reduceCtorEq, Nat.reduceLeDiff]
        refine ⟨_, hps _ hok ⟨hs.2, hs.1⟩ hd, ?_⟩
        simp only [TT, ↓reduceIte, Nat.reduceEqDiff, Nat.reduceAdd, Nat.reduceMul, reduceCtorEq, Nat.reduceLeDiff]
        exact Ends.data (.inr rfl) (by simp [ET]) ⟨al_aDk _, trivial, trivial⟩
    · have hp : putAllD d s data = (dk0, 41) := by unfold putAllD; rw [if_neg (by rw [hE]; simp), if_pos (by simpa using hroom)]
      rw [hp]
      simp only [decide_eq_false hroom, TT, ↓reduceIte, Nat.reduceEqDiff, Nat.reduceAdd, Nat.reduceMul, reduceCtorEq, Nat.reduceLeDiff]
      exact Ends.imp (r0 := .tup [dz, .v (.int .i64 41)]) (.inr rfl) (by simp [ET]) (al_dz _) (imp_dk0 _)
  · have hp : putAllD d s data = (dk0, 9) := by unfold putAllD; rw [if_pos (by rw [hE]; simp), hE]
    rw [hp, hE]
    have n9 : ((9 : Int) = 0) = False := eq_false (by decide)
    simp only [n9, not_false_eq_true, TT, ↓reduceIte, Nat.reduceEqDiff, Nat.reduceAdd, Nat.reduceMul, reduceCtorEq, Nat.reduceLeDiff]
    exact Ends.imp (r0 := .tup [dz, .v (.int .i64 9)]) (.inr rfl) (by simp [ET]) (al_dz _) (imp_dk0 _)
/-- what is put of 512 octets -/
theorem putAllD_512 {d : Dk} (h : okD d) {s : Nat} {data : List Int} (hd : data.length = 512) (hs : s + 8 ≤ d.sectors.length) : putAllD d s data = if d.cache.length + 8 ≤ 4096 then (putD d s data, 0) else (dk0, 51) := by
  have hK : chK data.length 64 = 8 := by rw [hd]; rfl
  unfold putAllD
  rw [if_neg (by rw [dkE_ok h]; simp), hK, if_neg (by simp; omega)]
  have hg : putG d s data = putD d s data := by
    unfold putG putD
    rw [hK]
    congr 2
    unfold putW putL
    apply List.ext_getElem
    · simp
    · intro i h1 h2
      have hi : i < 8 := by simpa using h1
      have hc : chk data i = chunk data i := by unfold chk chunk; rw [Nat.mul_comm, Nat.min_eq_left (by omega)]
      simp [hc, pad_full (chunk_len hd hi)]
  by_cases hov : d.cache.length + 8 ≤ 4096
  · rw [if_pos hov, if_neg (by omega), hg]
  · rw [if_neg hov, if_pos (by omega)]
end Go.Proofs.YtdenddhdeloceaaGreatDoor
namespace Go.Proofs.YtdenddhdeloceaaGreatDoor
open Go.RowKit
set_option maxRecDepth 100000
set_option maxHeartbeats 4000000 in
theorem store_spec (fr fp : Bool) (d : Dk) (p : Pt) (nb : Nat) (hl : d.sectors.length ≤ 140737488355328) : ASound Tryz.prog 21 [aDk fr d, aPt fp p] nb (.ret (.tup [aDk true (storeD d p).1, .v (.int .i64 (storeD d p).2)]) []) := by
  refine ok_21.sound (by simp) ⟨al_aDk d, al_aPt p, trivial⟩ ?_
  have ha := asked_spec fr d
  have he := pencode_spec fp p
  simp only [aDk, fL, fWrs] at ha
  simp only [aPt, fB] at he
  simp only [ac_21, TT, ↓reduceIte, Nat.reduceEqDiff, Nat.reduceAdd, Nat.reduceMul, reduceCtorEq, Nat.reduceLeDiff]
  refine ⟨_, ha _ hl, ?_⟩
  by_cases hA : askE d = 0
  · obtain ⟨hok, h16⟩ := askE_iff.1 hA
    rw [hA]
    simp only [not_true_eq_false, TT, ↓reduceIte, Nat.reduceEqDiff, Nat.reduceAdd, Nat.reduceMul, reduceCtorEq, Nat.reduceLeDiff]
    refine ⟨_, he _, ?_⟩
    by_cases hE : ptE p = 0
    · have hp := (okP_iff p).1 hE
      have hen : encP p = (pad 512 (bodyP p), 0) := by rw [encP, if_pos hE]
      have hlen : (pad 512 (bodyP p)).length = 512 := pad_len (by have := bodyP_le hp; omega)
      have h0 : 0 ≤ p.epoch ∧ p.epoch ≤ 1099511627776 := by have := hp.nums p.epoch (by simp [numsP]); omega
      have hsl : slotP p + 8 ≤ d.sectors.length := by unfold slotP; omega
      have hs16 : slotP p ≤ 8 := by unfold slotP; omega
      have hrem : IntKind.i64.wrap (Int.tmod p.epoch 2 * 8) = (slotP p : Int) := by
        rw [Int.tmod_eq_emod_of_nonneg h0.1, wrap64 (by omega)]
        unfold slotP; omega
      have z2 : ((2 : Int) = 0) = False := eq_false (by decide)
      have hpa := putAll_spec fr true d (slotP p : Int) (pad 512 (bodyP p))
      rw [putAllD_512 hok hlen hsl] at hpa
      simp only [aDk, fB, fL, fWrs] at hpa
      rw [hen]
      have hst : storeD d p = if d.cache.length + 8 ≤ 4096 then (flushD (putD d (slotP p) (pad 512 (bodyP p))), 0) else (dk0, 51) := by
        unfold storeD; rw [if_neg (by rw [hA]; simp), if_neg (by rw [hE]; simp), hen]
      by_cases hov : d.cache.length + 8 ≤ 4096
      · have hfl := flush_spec true (putD d (slotP p) (pad 512 (bodyP p)))
        simp only [aDk, fL, fWrs] at hfl
        rw [hst, if_pos hov]
        simp only [if_pos hov] at hpa
        have hokD := okD_put (data := pad 512 (bodyP p)) hok hlen hsl hov
        simp only [z2, hrem, not_true_eq_false, TT, ↓reduceIte, Nat.reduceEqDiff, Nat.reduceAdd, Nat.reduceMul, reduceCtorEq, Nat.reduceLeDiff]
        refine ⟨_, hpa _ hl (by omega) (by omega), ?_⟩
        generalize putD d (slotP p) (pad 512 (bodyP p)) = D at hfl hokD
        simp only [not_true_eq_false, TT, ↓reduceIte, Nat.reduceEqDiff, Nat.reduceAdd, Nat.reduceMul, reduceCtorEq, Nat.reduceLeDiff]
        refine ⟨_, hfl _ hokD, ?_⟩
        simp only [TT, ↓reduceIte, Nat.reduceEqDiff, Nat.reduceAdd, Nat.reduceMul, reduceCtorEq, Nat.reduceLeDiff]
        exact Ends.data (r := .tup [aDk true (flushD D), .v (.int .i64 0)]) (.inr rfl) (by simp [ET, aDk, fL, fWrs]) ⟨al_aDk _, trivial, trivial⟩
      · have e51 : ¬ (51 : Int) = 0 := by decide
        rw [hst, if_neg hov]
        simp only [if_neg hov] at hpa
        simp only [z2, hrem, not_true_eq_false, TT, ↓reduceIte, Nat.reduceEqDiff, Nat.reduceAdd, Nat.reduceMul, reduceCtorEq, Nat.reduceLeDiff]
        refine ⟨_, hpa _ hl (by omega) (by omega), ?_⟩
        simp only [e51, not_false_eq_true, TT, ↓reduceIte, Nat.reduceEqDiff, Nat.reduceAdd, Nat.reduceMul, reduceCtorEq, Nat.reduceLeDiff]
        exact Ends.imp (r0 := .tup [dz, .v (.int .i64 51)]) (.inr rfl) (by simp [ET]) (al_dz _) (imp_dk0 _)
    · have hen : encP p = ([], ptE p) := by rw [encP, if_neg hE]
      have hst : storeD d p = (dk0, ptE p) := by unfold storeD; rw [if_neg (by rw [hA]; simp), if_pos hE]
      rw [hen, hst]
      simp only [hE, not_false_eq_true, TT, ↓reduceIte, Nat.reduceEqDiff, Nat.reduceAdd, Nat.reduceMul, reduceCtorEq, Nat.reduceLeDiff]
      exact Ends.imp (r0 := .tup [dz, .v (.int .i64 (ptE p))]) (.inr rfl) (by simp [ET]) (al_dz _) (imp_dk0 _)
  · have hst : storeD d p = (dk0, askE d) := by unfold storeD; rw [if_pos hA]
    rw [hst]
    simp only [hA, not_false_eq_true, TT, ↓reduceIte, Nat.reduceEqDiff, Nat.reduceAdd, Nat.reduceMul, reduceCtorEq, Nat.reduceLeDiff]
    exact Ends.imp (r0 := .tup [dz, .v (.int .i64 (askE d))]) (.inr rfl) (by simp [ET]) (al_dz _) (imp_dk0 _)
end Go.Proofs.YtdenddhdeloceaaGreatDoor
namespace Go.Proofs.YtdenddhdeloceaaGreatDoor
open Go.RowKit
set_option maxRecDepth 100000
def accP (b x : Pt × Int) : Pt × Int := if x.2 = 0 ∧ (b.2 ≠ 0 ∨ b.1.epoch < x.1.epoch) then (x.1, 0) else b
def bestP (d : Dk) : Nat → Pt × Int
  | 0 => (pt0, 21)
  | i + 1 => accP (bestP d i) (decP (getD d (8 * i) 8))
theorem accP_pick (x y : Pt × Int) : accP (accP (pt0, 21) x) y = pickP x y := by
  obtain ⟨x, e⟩ := x
  obtain ⟨y, f⟩ := y
  unfold accP pickP
  by_cases he : e = 0 <;> by_cases hf : f = 0 <;> simp [he, hf]
abbrev cPt (p : Pt) : List AV := [.v (.int .i64 p.epoch), .v (.int .i64 p.seq), .v (.int .i64 p.view), .v (.int .i64 p.commit), fB true p.data]
abbrev zPt : AObj := .row true 25 [.v (.int .i64 0), .v (.int .i64 0), .v (.int .i64 0), .v (.int .i64 0), .v (.slice none 0 0)]
abbrev L_lo (fr : Bool) (d : Dk) (i : Nat) : ASt := ⟨envOf [(1, .op 0 0), (2, .op 1 0), (5, .op 2 0), (6, .v (.int .i64 (bestP d i).2)), (19, .v (.int .i64 i))],
  heapOf [(0, .row true 50 [fL fr d.sectors, fWrs fr d.cache]), (1, zPt), (2, .row true 25 (cPt (bestP d i).1))], 3⟩
set_option maxHeartbeats 4000000 in
theorem load_spec (fr : Bool) (d : Dk) (nb : Nat) (ho : octD d) (hl : d.sectors.length ≤ 140737488355328) : ASound Tryz.prog 23 [aDk fr d] nb (.ret (.tup [aPt true (loadD d).1, .v (.int .i64 (loadD d).2)]) []) := by
  refine ok_23.sound (by simp) ⟨al_aDk d, trivial⟩ ?_
  have ha := asked_spec fr d
  simp only [aDk, fL, fWrs] at ha
  simp only [ac_23, TT, ↓reduceIte, Nat.reduceEqDiff, Nat.reduceAdd, Nat.reduceMul, reduceCtorEq, Nat.reduceLeDiff]
  refine ⟨_, ha _ hl, ?_⟩
  by_cases hA : askE d = 0
  · obtain ⟨hok, h16⟩ := askE_iff.1 hA
    have hst : loadD d = bestP d 2 := by
      unfold loadD; rw [if_neg (by rw [hA]; simp), bestP, bestP, bestP, accP_pick]
    rw [hA, hst]
    simp only [not_true_eq_false, TT, ↓reduceIte, Nat.reduceEqDiff, Nat.reduceAdd, Nat.reduceMul, reduceCtorEq, Nat.reduceLeDiff]
    refine AWc.family (L_lo fr d) (fun i => i ≤ 2) (fun i => 2 - i) 0 (Nat.zero_le _) ?_ ?_
    · refine Weak.trans (Weak.calc (l := [(1, .op 0 0), (2, .op 1 0), (5, .op 2 0), (6, .v (.int .i64 21)), (19, .v (.int .i64 0))]) (h := [(0, .row true 50 [fL fr d.sectors, fWrs fr d.cache]), (1, zPt), (2, zPt)]) (nx := 3) [(0, 0), (100000, 1), (900000, 2)] (by decide) ?_ ?_) (Weak.imps _ _ (fun t v hm => ?_) (fun j o hm => ?_))
      · simp [WT]
      · simp [WT]
      · simp only [List.mem_cons, Prod.mk.injEq, List.not_mem_nil, or_false] at hm
        rcases hm with ⟨rfl, rfl⟩ | ⟨rfl, rfl⟩ | ⟨rfl, rfl⟩ | ⟨rfl, rfl⟩ | ⟨rfl, rfl⟩ <;> exact Imp.refl _
      · simp only [List.mem_cons, Prod.mk.injEq, List.not_mem_nil, or_false] at hm
        rcases hm with ⟨rfl, rfl⟩ | ⟨rfl, rfl⟩ | ⟨rfl, rfl⟩
        · exact ⟨_, _, _, _, rfl, rfl, Nat.le_refl _, fun k x hx => ⟨x, hx, Imp.refl x⟩⟩
        · exact ⟨_, _, _, _, rfl, rfl, Nat.le_refl _, fun k x hx => ⟨x, hx, Imp.refl x⟩⟩
        · refine ⟨true, 25, [.v (.int .i64 0), .v (.int .i64 0), .v (.int .i64 0), .v (.int .i64 0), .v (.slice none 0 0)], cPt (bestP d 0).1, rfl, rfl, Nat.le_refl _, fun k x hx => ?_⟩
          match k, hx with
          | 0, hx => cases hx; exact ⟨_, rfl, Imp.refl _⟩
          | 1, hx => cases hx; exact ⟨_, rfl, Imp.refl _⟩
          | 2, hx => cases hx; exact ⟨_, rfl, Imp.refl _⟩
          | 3, hx => cases hx; exact ⟨_, rfl, Imp.refl _⟩
          | 4, hx => cases hx; exact ⟨_, rfl, Imp.nil true⟩
          | k + 5, hx => simp at hx
    · intro i hi
      by_cases hlt : i < 2
      · have e1 : ((i : Int) < 2) := by omega
        have w2 : IntKind.i64.wrap ((i : Int) * 8) = ((8 * i : Nat) : Int) := by rw [wrap64 (by omega)]; omega
        have w3 : IntKind.i64.wrap ((i : Int) + 1) = ((i + 1 : Nat) : Int) := by rw [wrap64 (by omega)]; omega
        have g1 := getAll_ok fr d (8 * i) 8
        have l1 := getD_len hok (8 * i) 8 (by omega)
        have o1 := getD_okB ho (8 * i) 8
        have d1 := pdecode_spec true (getD d (8 * i) 8)
        have hb : bestP d (i + 1) = accP (bestP d i) (decP (getD d (8 * i) 8)) := rfl
        simp only [L_lo]
        generalize getD d (8 * i) 8 = A at g1 l1 d1 o1 hb
        simp only [aDk, fB, fL, fWrs, show ((8 : Nat) : Int) = 8 from rfl] at g1
        simp only [fB, aPt] at d1
        generalize decP A = x at d1 hb
        generalize bestP d i = b at hb
        obtain ⟨x, e⟩ := x
        obtain ⟨b, c⟩ := b
        simp only [e1, w2, TT, ↓reduceIte, Nat.reduceEqDiff, Nat.reduceAdd, Nat.reduceMul, reduceCtorEq, Nat.reduceLeDiff]
        refine ⟨_, g1 _ hok (by omega), ?_⟩
        simp only [TT, ↓reduceIte, Nat.reduceEqDiff, Nat.reduceAdd, Nat.reduceMul, reduceCtorEq, Nat.reduceLeDiff]
        refine ⟨_, d1 _ o1 (by omega), ?_⟩
        simp only at d1 ⊢
        by_cases he : e = 0
        · subst he
          by_cases hc : c = 0
          · subst hc
            by_cases hlt2 : b.epoch < x.epoch
            · have hb' : accP (b, 0) (x, 0) = (x, 0) := by simp [accP, hlt2]
              rw [hb'] at hb
              simp only [hlt2, not_true_eq_false, TT, ↓reduceIte, Nat.reduceEqDiff, Nat.reduceAdd, Nat.reduceMul, reduceCtorEq, Nat.reduceLeDiff]
              refine famC_next (i + 1) (by omega) (by omega) ?_
              refine Weak.calc [(0, 0), (1, 1), (2, 2)] (by decide) ?_ ?_ <;> simp [WT, hb, w3, fB, fL, fWrs]
            · have hb' : accP (b, 0) (x, 0) = (b, 0) := by simp [accP, hlt2]
              rw [hb'] at hb
              simp only [hlt2, not_true_eq_false, TT, ↓reduceIte, Nat.reduceEqDiff, Nat.reduceAdd, Nat.reduceMul, reduceCtorEq, Nat.reduceLeDiff]
              refine famC_next (i + 1) (by omega) (by omega) ?_
              refine Weak.calc [(0, 0), (1, 1), (2, 2)] (by decide) ?_ ?_ <;> simp [WT, hb, w3, fB, fL, fWrs]
          · have hb' : accP (b, c) (x, 0) = (x, 0) := by simp [accP, hc]
            rw [hb'] at hb
            simp only [hc, not_true_eq_false, not_false_eq_true, TT, ↓reduceIte, Nat.reduceEqDiff, Nat.reduceAdd, Nat.reduceMul, reduceCtorEq, Nat.reduceLeDiff]
            refine famC_next (i + 1) (by omega) (by omega) ?_
            refine Weak.calc [(0, 0), (1, 1), (2, 2)] (by decide) ?_ ?_ <;> simp [WT, hb, w3, fB, fL, fWrs]
        · have hb' : accP (b, c) (x, e) = (b, c) := by simp [accP, he]
          rw [hb'] at hb
          simp only [he, not_true_eq_false, not_false_eq_true, TT, ↓reduceIte, Nat.reduceEqDiff, Nat.reduceAdd, Nat.reduceMul, reduceCtorEq, Nat.reduceLeDiff]
          refine famC_next (i + 1) (by omega) (by omega) ?_
          refine Weak.calc [(0, 0), (1, 1), (2, 2)] (by decide) ?_ ?_ <;> simp [WT, hb, w3, fB, fL, fWrs]
      · obtain rfl : i = 2 := by omega
        have e1 : ¬ (((2 : Nat) : Int) < 2) := by omega
        simp only [L_lo]
        generalize bestP d 2 = b
        obtain ⟨b, c⟩ := b
        simp only [e1, TT, ↓reduceIte, Nat.reduceEqDiff, Nat.reduceAdd, Nat.reduceMul, reduceCtorEq, Nat.reduceLeDiff]
        exact Ends.data (r := .tup [aPt true b, .v (.int .i64 c)]) (.inr rfl) (by simp [ET, aPt, fB]) ⟨al_aPt _, trivial, trivial⟩
  · have hst : loadD d = (pt0, askE d) := by unfold loadD; rw [if_pos hA]
    rw [hst]
    simp only [hA, not_false_eq_true, TT, ↓reduceIte, Nat.reduceEqDiff, Nat.reduceAdd, Nat.reduceMul, reduceCtorEq, Nat.reduceLeDiff]
    exact Ends.imp (r0 := .tup [pz, .v (.int .i64 (askE d))]) (.inr rfl) (by simp [ET]) (al_pz _) (imp_pt0 _)
end Go.Proofs.YtdenddhdeloceaaGreatDoor
namespace Go.Proofs.YtdenddhdeloceaaGreatDoor
open Go.RowKit
theorem ASound.args {P : Program} {f : FuncId} {args args' : List AV} {nb : Nat} {am : AM} (h : ASound P f args nb am) (hi : ImpL args' args) : ASound P f args' nb am :=
  ⟨h.1, fun c us r R W hrun hr hfr hv => h.2 c us r R W hrun hr hfr (by
    obtain ⟨e1, e2⟩ := ImpL_get hi
    rw [VRt_iff] at hv ⊢
    refine ⟨by omega, fun j a hj => ?_⟩
    obtain ⟨x, hx, hix⟩ := e2 j a hj
    obtain ⟨u, k1, k2⟩ := hv.2 j x hx
    exact ⟨u, k1, hix c u k2⟩)⟩
def landT (ss : List (List Int)) (l : List Wr) : List (List Int) := landL ss (l.map fun w => (true, w))
theorem flushD_eq (d : Dk) : flushD d = ⟨landT d.sectors d.cache, []⟩ := by
  unfold flushD crashD landT
  congr 2
  apply List.ext_getElem <;> simp
theorem landL_append : ∀ (a b : List (Bool × Wr)) (ss : List (List Int)), landL ss (a ++ b) = landL (landL ss a) b
  | [], _, _ => rfl
  | (k, w) :: a, b, ss => by rw [List.cons_append, landL, landL, landL_append a b]
theorem landT_snoc (ss : List (List Int)) (l : List Wr) (w : Wr) : landT ss (l ++ [w]) = (landT ss l).set w.sec.toNat w.data := by
  unfold landT; rw [List.map_append, landL_append]; rfl
theorem landT_len (ss : List (List Int)) (l : List Wr) : (landT ss l).length = ss.length := landL_len _ _
theorem landT_putL (ss : List (List Int)) (s : Nat) (data : List Int) : ∀ (n j : Nat), s + n ≤ ss.length → (landT ss (putL s data n))[j]? = if s ≤ j ∧ j < s + n then some (chunk data (j - s)) else ss[j]?
  | 0, j, _ => by rw [if_neg (by omega)]; rfl
  | n + 1, j, h => by
    rw [putL_s, landT_snoc]
    show ((landT ss (putL s data n)).set ((s + n : Nat) : Int).toNat (chunk data n))[j]? = _
    rw [Int.toNat_natCast, List.getElem?_set]
    by_cases e : s + n = j
    · subst e
      rw [if_pos rfl, if_pos (by rw [landT_len]; omega), if_pos (by omega), show s + n - s = n from by omega]
    · rw [if_neg e, landT_putL ss s data n j (by omega)]
      by_cases h2 : s ≤ j ∧ j < s + n
      · rw [if_pos h2, if_pos (by omega)]
      · rw [if_neg h2, if_neg (by omega)]
theorem flat_chunk (data : List Int) : ∀ n, (List.range n).flatMap (chunk data) = data.take (64 * n)
  | 0 => by simp
  | n + 1 => by
    rw [List.range_succ, List.flatMap_append, flat_chunk data n]
    simp only [List.flatMap_cons, List.flatMap_nil, List.append_nil]
    rw [chunk, Nat.mul_succ, List.take_add]
/-- region k -/
def regD (d : Dk) (k : Nat) : List Int := getD d (8 * k) 8
theorem secAt_nil {d : Dk} (hc : d.cache = []) (k : Nat) : secAt d k = (d.sectors[k]?).getD [] := by unfold secAt; rw [hc]; rfl
structure cleanD (d : Dk) : Prop where
  ok : okD d
  few : 16 ≤ d.sectors.length
  cache : d.cache = []
/-- what a store makes -/
def stD (d : Dk) (k : Nat) (data : List Int) : Dk := flushD (putD d (8 * k) data)
theorem stD_sectors {d : Dk} (h : cleanD d) (k : Nat) (data : List Int) : (stD d k data).sectors = landT d.sectors (putL (8 * k) data 8) := by
  unfold stD; rw [flushD_eq, putD, h.cache]; rfl
theorem stD_clean {d : Dk} (h : cleanD d) {k : Nat} (hk : k < 2) {data : List Int} (hd : data.length = 512) : cleanD (stD d k data) := by
  have hf := h.few
  have hs := stD_sectors h k data
  have hl : (stD d k data).sectors.length = d.sectors.length := by rw [hs, landT_len]
  have hc : (stD d k data).cache = [] := by unfold stD; rw [flushD_eq]
  refine ⟨⟨?_, fun t ht => ?_, fun w hw => by rw [hc] at hw; cases hw⟩, by rw [hl]; exact hf, hc⟩
  · have := h.ok.few; rw [hl, hc]; simp only [List.length_nil]; omega
  · rw [hs] at ht
    obtain ⟨j, hj⟩ := List.mem_iff_getElem?.1 ht
    rw [landT_putL _ _ _ _ _ (by omega)] at hj
    split at hj
    · cases hj; exact chunk_len hd (by omega)
    · exact h.ok.secs t (List.mem_of_getElem? hj)
theorem regD_st {d : Dk} (h : cleanD d) {k : Nat} (hk : k < 2) {data : List Int} (hd : data.length = 512) : regD (stD d k data) k = data := by
  have hf := h.few
  unfold regD getD
  have : ∀ i ∈ List.range 8, secAt (stD d k data) (8 * k + i) = chunk data i := fun i hi => by
    rw [List.mem_range] at hi
    rw [secAt_nil (stD_clean h hk hd).cache, stD_sectors h, landT_putL _ _ _ _ _ (by omega), if_pos (by omega), show 8 * k + i - 8 * k = i from by omega]
    rfl
  have e : (List.range 8).flatMap (fun i => secAt (stD d k data) (8 * k + i)) = (List.range 8).flatMap (chunk data) := by
    rw [List.flatMap_def, List.flatMap_def, List.map_congr_left this]
  rw [e, flat_chunk, List.take_of_length_le (by omega)]
theorem regD_other {d : Dk} (h : cleanD d) {k j : Nat} (hk : k < 2) (hj : j < 2) (hne : j ≠ k) {data : List Int} (hd : data.length = 512) : regD (stD d k data) j = regD d j := by
  have hf := h.few
  unfold regD getD
  have : ∀ i ∈ List.range 8, secAt (stD d k data) (8 * j + i) = secAt d (8 * j + i) := fun i hi => by
    rw [List.mem_range] at hi
    rw [secAt_nil (stD_clean h hk hd).cache, secAt_nil h.cache, stD_sectors h, landT_putL _ _ _ _ _ (by omega), if_neg (by omega)]
  rw [List.flatMap_def, List.flatMap_def, List.map_congr_left this]
theorem encP_len {p : Pt} (h : okP p) : (encP p).1.length = 512 := by
  rw [encP, if_pos ((okP_iff p).2 h)]; exact pad_len (by have := bodyP_le h; omega)
/-- the region of a point -/
def regP (p : Pt) : Nat := p.epoch.toNat % 2
theorem regP_lt (p : Pt) : regP p < 2 := Nat.mod_lt _ (by decide)
theorem askE_clean {d : Dk} (h : cleanD d) : askE d = 0 := askE_ok h.ok (by have := h.few; omega)
theorem storeD_clean {d : Dk} (h : cleanD d) {p : Pt} (hp : okP p) : storeD d p = (stD d (regP p) (encP p).1, 0) := by
  unfold storeD
  rw [if_neg (by rw [askE_clean h]; simp), if_neg (by rw [(okP_iff p).2 hp]; simp), if_pos (by rw [h.cache]; simp)]
  rfl
theorem loadD_clean {d : Dk} (h : cleanD d) : loadD d = pickP (decP (regD d 0)) (decP (regD d 1)) := by
  unfold loadD; rw [if_neg (by rw [askE_clean h]; simp)]; rfl
theorem zeros_clean : cleanD (zerosD 16) := by
  refine ⟨⟨?_, fun t ht => ?_, fun w hw => by cases hw⟩, ?_, rfl⟩
  · simp [zerosD]
  · have := List.eq_of_mem_replicate ht; subst this; rfl
  · simp [zerosD]
theorem okB_gp : ∀ (m : Nat), okB (gp m) := by
  intro m
  induction m using Nat.strongRecOn with
  | _ m ih =>
    by_cases h : m < 128
    · rw [gp_small h]; intro x hx; simp at hx; omega
    · rw [gp_big h]; intro x hx
      rcases List.mem_cons.1 hx with e | e
      · omega
      · exact ih (m / 128) (by omega) x e
theorem okB_flat {α : Type} {f : α → List Int} {l : List α} (h : ∀ a ∈ l, okB (f a)) : okB (l.flatMap f) := fun x hx => by
  obtain ⟨a, ha, hx⟩ := List.mem_flatMap.1 hx
  exact h a ha x hx
theorem okB_enc {r : Rec} (h : okR r) (ht : ∀ t ∈ r.texts, okB t) : okB (encR r) := by
  have hk := h.kind
  have hm := h.many
  unfold encR
  refine okB_app (okB_app ?_ (okB_flat fun n _ => okB_gp _)) ?_
  · intro x hx; simp at hx; omega
  · intro x hx
    rcases List.mem_cons.1 hx with e | e
    · omega
    · exact okB_flat (fun t ht' => okB_app (okB_gp _) (ht t ht')) x e
theorem okB_low4 (c : BitVec 32) : okB (low4 c) := by
  intro x hx
  unfold low4 at hx
  simp only [List.mem_cons, List.not_mem_nil, or_false] at hx
  omega
theorem okB_encP {p : Pt} (hp : okB p.data) : okB (encP p).1 := by
  unfold encP
  split
  · rename_i h
    have hp' := (okP_iff p).1 h
    have hl := sealP_le hp'
    refine okB_app (okB_app ?_ (okB_app (okB_enc (okR_P hp') ?_) (okB_low4 _))) ?_
    · intro x hx; simp only [List.mem_cons, List.not_mem_nil, or_false] at hx; omega
    · intro t ht; simp [recP] at ht; subst ht; exact hp
    · intro x hx; have := List.eq_of_mem_replicate hx; omega
  · intro x hx; cases hx
theorem oct_st {d : Dk} (h : cleanD d) (ho : octD d) {k : Nat} (hk : k < 2) {data : List Int} (hb : okB data) : octD (stD d k data) := by
  have hf := h.few
  refine ⟨fun t ht => ?_, fun w hw => by unfold stD at hw; rw [flushD_eq] at hw; cases hw⟩
  rw [stD_sectors h] at ht
  obtain ⟨j, hj⟩ := List.mem_iff_getElem?.1 ht
  rw [landT_putL _ _ _ _ _ (by omega)] at hj
  split at hj
  · cases hj; exact okB_take (okB_drop hb _) _
  · exact ho.secs t (List.mem_of_getElem? hj)
theorem oct_zeros : octD (zerosD 16) := by
  refine ⟨fun t ht => ?_, fun w hw => by cases hw⟩
  have := List.eq_of_mem_replicate ht; subst this
  intro x hx
  have := List.eq_of_mem_replicate hx; omega
def al1 : Pt := ⟨1, 0, 0, 0, []⟩
def al2 : Pt := ⟨2, 7, 0, 0, []⟩
theorem al1_ok : okP al1 := ⟨by simp [al1, numsP], by simp [al1]⟩
theorem al2_ok : okP al2 := ⟨by simp [al2, numsP], by simp [al2]⟩
def alD1 : Dk := stD (zerosD 16) 1 (encP al1).1
def alD2 : Dk := stD alD1 0 (encP al2).1
theorem alD1_clean : cleanD alD1 := stD_clean zeros_clean (by decide) (encP_len al1_ok)
theorem alD2_clean : cleanD alD2 := stD_clean alD1_clean (by decide) (encP_len al2_ok)
theorem alD1_store : storeD (zerosD 16) al1 = (alD1, 0) := storeD_clean zeros_clean al1_ok
theorem alD2_store : storeD alD1 al2 = (alD2, 0) := storeD_clean alD1_clean al2_ok
theorem okB_nil : okB [] := fun _ h => by cases h
theorem alD2_oct : octD alD2 := oct_st alD1_clean (oct_st zeros_clean oct_zeros (by decide) (okB_encP okB_nil)) (by decide) (okB_encP okB_nil)
theorem alD2_load : loadD alD2 = (al2, 0) := by
  rw [loadD_clean alD2_clean]
  have h0 : regD alD2 0 = (encP al2).1 := regD_st alD1_clean (by decide) (encP_len al2_ok)
  have h1 : regD alD2 1 = (encP al1).1 := (regD_other alD1_clean (by decide) (by decide) (by decide) (encP_len al2_ok)).trans (regD_st zeros_clean (by decide) (encP_len al1_ok))
  rw [h0, h1, decP_encP al2_ok, decP_encP al1_ok]
  simp [pickP, al1, al2]
theorem decP_ok (l : List Int) : (decP l).1 = pt0 ∨ okP (decP l).1 := by
  unfold decP
  split
  · split
    · exact .inl rfl
    · unfold decP2
      split
      · exact .inl rfl
      · split
        · exact .inl rfl
        · split
          · exact .inl rfl
          · split
            · exact .inl rfl
            · split
              · exact .inl rfl
              · rename_i h
                split
                · exact .inl rfl
                · exact .inr ((okP_iff _).1 (Classical.byContradiction h))
  · exact .inl rfl
theorem decP_le (l : List Int) : (decP l).1.data.length ≤ 400 := by
  rcases decP_ok l with h | h
  · rw [h]; simp [pt0]
  · have := h.short; omega
end Go.Proofs.YtdenddhdeloceaaGreatDoor
namespace Go.Proofs.YtdenddhdeloceaaGreatDoor
open Go.RowKit
set_option maxRecDepth 100000
theorem imp_al (a b : Int) : Imp (.agg [.v (.int .i64 a), .v (.int .i64 b), .v (.int .i64 0), .v (.int .i64 0), .v (.slice none 0 0)]) (aPt true ⟨a, b, 0, 0, []⟩) :=
  Imp.aggL ⟨Imp.refl _, Imp.refl _, Imp.refl _, Imp.refl _, Imp.nil true, trivial⟩
set_option maxHeartbeats 2000000 in
theorem alive_spec (nb : Nat) : ASound Tryz.prog 19 [] nb (.ret (.v (.bool true)) []) := by
  refine ok_19.sound (by simp) trivial ?_
  have hn := new_spec 16
  have s1 := store_spec true true (zerosD 16) al1
  rw [alD1_store] at s1
  have s2 := store_spec true true alD1 al2
  rw [alD2_store] at s2
  have hl := load_spec true alD2
  rw [alD2_load] at hl
  have k1 : alD1.sectors.length ≤ 140737488355328 := by have := alD1_clean.ok.few; omega
  have k2 : alD2.sectors.length ≤ 140737488355328 := by have := alD2_clean.ok.few; omega
  have k0 : (zerosD 16).sectors.length ≤ 140737488355328 := by simp [zerosD]
  have oc := alD2_oct
  generalize alD2 = D2 at *
  generalize alD1 = D1 at *
  generalize zerosD 16 = D0 at *
  simp only [ac_19, TT, ↓reduceIte, Nat.reduceEqDiff, Nat.reduceAdd, Nat.reduceMul, reduceCtorEq, Nat.reduceLeDiff]
  refine ⟨_, hn _ (by decide) (by decide), ?_⟩
  simp only [TT, ↓reduceIte, Nat.reduceEqDiff, Nat.reduceAdd, Nat.reduceMul, reduceCtorEq, Nat.reduceLeDiff]
  refine ⟨_, (s1 _ k0).args (args' := [aDk true D0, .agg [.v (.int .i64 1), .v (.int .i64 0), .v (.int .i64 0), .v (.int .i64 0), .v (.slice none 0 0)]]) ⟨Imp.refl _, imp_al 1 0, trivial⟩, ?_⟩
  simp only [TT, ↓reduceIte, Nat.reduceEqDiff, Nat.reduceAdd, Nat.reduceMul, reduceCtorEq, Nat.reduceLeDiff]
  refine ⟨_, (s2 _ k1).args (args' := [aDk true D1, .agg [.v (.int .i64 2), .v (.int .i64 7), .v (.int .i64 0), .v (.int .i64 0), .v (.slice none 0 0)]]) ⟨Imp.refl _, imp_al 2 7, trivial⟩, ?_⟩
  simp only [TT, ↓reduceIte, Nat.reduceEqDiff, Nat.reduceAdd, Nat.reduceMul, reduceCtorEq, Nat.reduceLeDiff]
  refine ⟨_, hl _ oc k2, ?_⟩
  simp only [al2, TT, ↓reduceIte, Nat.reduceEqDiff, Nat.reduceAdd, Nat.reduceMul, reduceCtorEq, Nat.reduceLeDiff]
  refine ⟨_, num_spec 0 _, ?_⟩
  simp only [TT, ↓reduceIte, Nat.reduceEqDiff, Nat.reduceAdd, Nat.reduceMul, reduceCtorEq, Nat.reduceLeDiff]
  refine ⟨_, num_spec 0 _, ?_⟩
  simp only [TT, ↓reduceIte, Nat.reduceEqDiff, Nat.reduceAdd, Nat.reduceMul, reduceCtorEq, Nat.reduceLeDiff]
  refine ⟨_, num_spec 0 _, ?_⟩
  simp only [TT, ↓reduceIte, Nat.reduceEqDiff, Nat.reduceAdd, Nat.reduceMul, reduceCtorEq, Nat.reduceLeDiff]
  refine ⟨_, num_spec 0 _, ?_⟩
  simp only [TT, ↓reduceIte, Nat.reduceEqDiff, Nat.reduceAdd, Nat.reduceMul, reduceCtorEq, Nat.reduceLeDiff]
  exact Ends.data (.inr rfl) (by simp [ET]; try decide) trivial
end Go.Proofs.YtdenddhdeloceaaGreatDoor
namespace Go.Proofs.YtdenddhdeloceaaGreatDoor
set_option maxRecDepth 100000
end Go.Proofs.YtdenddhdeloceaaGreatDoor
namespace Go.Proofs.YtdenddhdeloceaaGreatDoor
open Go.RowKit
set_option maxRecDepth 100000
end Go.Proofs.YtdenddhdeloceaaGreatDoor
namespace Go.Proofs.YtdenddhdeloceaaGreatDoor
open Go.RowKit
set_option maxRecDepth 100000
end Go.Proofs.YtdenddhdeloceaaGreatDoor
namespace Go.Proofs.YtdenddhdeloceaaGreatDoor
open Go.RowKit
set_option maxRecDepth 100000
def okBytes (l : List Int) : Prop := l.length * 1 ≤ reachB ∧ ∀ x ∈ l, (Lit.int .u8 x).wf = true
def wf64 (x : Int) : Prop := (Lit.int .i64 x).wf = true
theorem okBytes_B {l : List Int} (h : okBytes l) : okB l := fun x hx => by
  have := h.2 x hx
  simp [Lit.wf, IntKind.min, IntKind.max, IntKind.bits, IntKind.signed] at this
  omega
theorem okBytes_le {l : List Int} (h : okBytes l) : l.length ≤ 140737488351232 := by have := h.1; unfold reachB at this; omega
theorem eB_flat (l : List Int) : eB l = l.flatMap fun x => [.v (.int .u8 x)] := by simp [eB, List.map_eq_flatMap]
theorem rdt_bytes : Rd Tryz.prog 22 (fun fr l => [fB fr l]) okBytes :=
  (rd_slice (B := 1) Tryz.underlying22 (by kernel_rfl) (by kernel_rfl) (by rw [show Tryz.prog.cellsOf 5 = 1 from by kernel_rfl]; decide) (rd_int Tryz.underlying5 (by kernel_rfl))).map id id (fun fr b => by simp [fB, eB_flat]) (fun fr b => by simp [fB, eB_flat]) fun a h => h
theorem rdt_num : Rd Tryz.prog 3 (fun _ x => [.v (.int .i64 x)]) wf64 := rd_int Tryz.underlying3 (by kernel_rfl)
structure okPt (p : Pt) : Prop where
  e : wf64 p.epoch
  s : wf64 p.seq
  v : wf64 p.view
  c : wf64 p.commit
  d : okBytes p.data
theorem rdt_pt : Rd Tryz.prog 24 (fun fr (p : Pt) => [.v (.int .i64 p.epoch), .v (.int .i64 p.seq), .v (.int .i64 p.view), .v (.int .i64 p.commit), fB fr p.data]) okPt :=
  (rd_struct Tryz.underlying24 (by kernel_rfl) (RdF.cons (c := 1) rfl (by kernel_rfl) rdt_num (RdF.cons (c := 1) rfl (by kernel_rfl) rdt_num (RdF.cons (c := 1) rfl (by kernel_rfl) rdt_num (RdF.cons (c := 1) rfl (by kernel_rfl) rdt_num (RdF.cons (c := 1) rfl (by kernel_rfl) rdt_bytes RdF.nil)))))).map
    (fun x => ⟨x.1, x.2.1, x.2.2.1, x.2.2.2.1, x.2.2.2.2.1⟩) (fun b => (b.epoch, b.seq, b.view, b.commit, b.data, ())) (fun fr b => rfl) (fun fr b => rfl) fun a h => ⟨h.1, h.2.1, h.2.2.1, h.2.2.2.1, h.2.2.2.2.1⟩
theorem laid : laidOutB Tryz.prog = true := by kernel_rfl
def lst : List (String × DataW Unit) := [("unicode/utf8.acceptRanges", Rows.laid_unicode_utf8_acceptRanges), ("errors.errorType", Rows.laid_errors_errorType), ("unicode/utf8.first", Rows.laid_unicode_utf8_first)]
theorem own : ownKnob Tryz.prog.godebug = none := by kernel_rfl
theorem et : Tryz.prog.globalNamed "errors.errorType" = some 0 := by kernel_rfl
theorem rtT : (Tryz.prog.cutTypes.find? (·.1 == "internal/reflectlite.rtype")).map (·.2) = some 190 := by kernel_rfl
theorem tsize : Tryz.prog.types.size = 235 := by kernel_rfl
theorem oneRow : ((List.range 235).filter fun t => Tryz.prog.rowNamed t [101, 114, 114, 111, 114]) = [111] := by kernel_rfl
theorem glob_of_laid {W : World} (h : laidMetH Tryz.prog lst W) : ∀ b v, GLOB b = some v → W.cell? ⟨b, 0, none⟩ = some v := by
  intro b v hb
  have h' : laidMet Tryz.prog (lst.filter fun x => x.2.handleName?.isNone) W ∧ handlesMet Tryz.prog (lst.filter fun x => x.2.handleName?.isSome) W := h
  obtain ⟨name, u, ty, e1, e2, e3, e4, e5⟩ := h'.2 ("errors.errorType", Rows.laid_errors_errorType) (by simp [lst]; decide)
  have en : name = [101, 114, 114, 111, 114] := (Option.some.inj e1).symm
  subst en
  obtain rfl := Option.some.inj (rtT.symm.trans e2)
  have hm : ty ∈ (List.range 235).filter fun t => Tryz.prog.rowNamed t [101, 114, 114, 111, 114] := List.mem_filter.2 ⟨List.mem_range.2 (by rw [← tsize]; exact e3), e4⟩
  rw [oneRow] at hm
  obtain rfl := List.mem_singleton.1 hm
  have hh : typeHandle Tryz.prog 111 = .pointer (some ⟨3, 111, none⟩) := by kernel_rfl
  rw [hh] at e5
  have hc : W.cell? ⟨0, 0, none⟩ = some (.iface 190 (.agg #[.pointer (some ⟨3, 111, none⟩)])) := by simpa using World.var?_cell et e5 0
  unfold GLOB at hb
  split at hb
  · rename_i e; subst e; cases hb; exact hc
  · cases hb
/-- a world that holds it -/
noncomputable def laidW0 (os : Os) : World :=
  let w0 := World.holding Tryz.prog os ⟨#[], #[], []⟩
  { w0 with heap := w0.heap.modify 0 fun
      | .cells _ t frozen => .cells #[.iface 190 (.agg #[.pointer (some ⟨3, 111, none⟩)])] t frozen
      | o => o }
def lstD : List (String × DataW Unit) := [("unicode/utf8.acceptRanges", Rows.laid_unicode_utf8_acceptRanges), ("unicode/utf8.first", Rows.laid_unicode_utf8_first)]
noncomputable def laidWorld (os : Os) : World := (laidW0 os).layVars Tryz.prog lstD
theorem laidWorld_os (os : Os) : (laidWorld os).os = os := World.layVars_os _ _ _
theorem laidWorld_met (os : Os) (args : Array Value) : laidMetH Tryz.prog lst ((laidWorld os).forCall (fun _ _ => 0) ⟨#[], args, []⟩).memory := by
  refine laidMetH_of_parts ?_ (by kernel_rfl)
  have e : (lst.filter fun x => x.2.handleName?.isNone) = lstD := by rfl
  rw [e]
  have e1 : (lstD.filter fun x => ["unicode/utf8.acceptRanges", "unicode/utf8.first"].contains x.1) = lstD := by rfl
  have e2 : (lstD.filter fun x => !["unicode/utf8.acceptRanges", "unicode/utf8.first"].contains x.1) = [] := by rfl
  have h : laidMet Tryz.prog lstD (laidWorld os) := laidMet_layVars (w0 := laidW0 os) ["unicode/utf8.acceptRanges", "unicode/utf8.first"] [] (by rw [e1]; rfl) (by rw [e1]; kernel_rfl) (by rw [e1]; kernel_rfl) (by rw [e2]; exact LaidIn.none)
  exact h.of_heap (by simp [World.memory, World.forCall, Input.heap])
theorem laidWorld_shaped (os : Os) (args : Array Value) : ((laidWorld os).forCall (fun _ _ => 0) ⟨#[], args, []⟩).Shaped Tryz.prog := World.shaped_of_ZipB (by kernel_rfl) (by kernel_rfl)
end Go.Proofs.YtdenddhdeloceaaGreatDoor
namespace Go.Proofs.YtdenddhdeloceaaGreatDoor
open Go.RowKit
variable {P : Program} {c d : Cx} {rws : List RW}
theorem ASound.borrowG {f : FuncId} {args args' : List AV} {nb : Nat} {r : AV} (ws : List (Bool × Nat × List AV)) (rws : List RW)
    (H : ∀ (c d : Cx), HR c → (∀ (j : Nat) (x : RW), rws[j]? = some x → c.σ x.1 = some (.row x.2.1 x.2.2.1 x.2.2.2)) → d.w = c.w → (∀ fr b, b < c.w.heap.size → c.ok fr b → d.ok false b) → (∀ (j : Nat) (x : RW) b, rws[j]? = some x → c.φ x.1 = some (some b) → d.ok false b) → ∀ us, VRt c args us → VRt d args' us)
    (h : ASound P f args' nb (.ret r (newW nb ws))) (hfew : ws.length ≤ 100000)
    (hy : Yg (fun i => nb ≤ i ∧ i < nb + ws.length) r) (hyw : ∀ x ∈ ws, YgL (fun i => nb ≤ i ∧ i < nb + ws.length) x.2.2) : ASound P f args nb (rowsM rws (.ret r (newW nb ws))) := by
  refine ⟨h.1, fun c us r' R W' hrun hr hfr hv => ?_⟩
  obtain ⟨hσ, R', hrun2⟩ := rowsM_run hrun
  simp [AM.run] at hrun2
  obtain ⟨rfl, _, rfl⟩ := hrun2
  clear hrun
  obtain ⟨Yx, Yx_pos, Yx_neg⟩ := c.yx
  have Tlt : ∀ b, c.T b → b < c.w.heap.size := by
    rintro b ⟨i, ⟨y', e', cl⟩, e1, e2⟩
    rcases hr.row i y' e' cl e1 with ⟨g1, _⟩ | ⟨b', cs, g1, g2, _⟩
    · rw [e2] at g1; cases g1
    · rw [e2] at g1; cases g1; exact lt_of_blk g2
  generalize hc1 : (⟨c.w, c.w.heap.size, fun _ => none, fun _ => none, fun b => (c.T b ∧ ∀ (j : Nat) (x : RW), rws[j]? = some x → c.φ x.1 ≠ some (some b)) ∨ c.X b, Yx⟩ : Cx) = c1
  have w1 : c1.w = c.w := by rw [← hc1]
  have B1 : c1.B = c.w.heap.size := by rw [← hc1]
  have σ1 : c1.σ = fun _ => none := by rw [← hc1]
  have φ1 : c1.φ = fun _ => none := by rw [← hc1]
  have X1 : ∀ b, c1.X b ↔ ((c.T b ∧ ∀ (j : Nat) (x : RW), rws[j]? = some x → c.φ x.1 ≠ some (some b)) ∨ c.X b) := by rw [← hc1]; intro b; rfl
  have Y1 : c1.Y = Yx := by rw [← hc1]
  have T1 : ∀ b, ¬ c1.T b := by rintro b ⟨id, o, e1, _⟩; rw [σ1] at e1; cases e1
  have hx1 : ∀ b, c1.X b → b < c1.w.heap.size := by
    intro b hb
    rw [w1]
    rcases (X1 b).1 hb with h9 | h9
    · exact Tlt b h9.1
    · exact hr.xlt b h9
  have hr1 : HR c1 := ⟨fun id y e cells hs => (by rw [σ1] at hs; cases hs), fun id id' b e1 => (by rw [σ1] at e1; exact absurd rfl e1), (by rw [B1, w1]; exact Nat.le_refl _), hx1, hr.gl.to fun b _ h2 h3 => ⟨by rw [w1], T1 b, fun _ => by
      rw [Y1]
      by_cases hx : c.X b
      · rw [Yx_pos _ hx]; exact h3 hx
      · exact Yx_neg _ hx⟩⟩
  have hv1 : VRt c1 args' us := by
    refine H c c1 hr hσ w1 (fun fr b _ ho => ⟨fun h => (by cases h), T1 b, ?_⟩) (fun j x b h1 h2 => ⟨fun h => (by cases h), T1 b, ?_⟩) us hv
    · rw [X1]; rintro (h9 | h9)
      · exact ho.2.1 h9.1
      · exact ho.2.2 h9
    · rw [X1]; rintro (h9 | h9)
      · exact h9.2 j x h1 h2
      · exact hr.TX ⟨x.1, _, hσ j x h1, h2⟩ h9
  have hk9 := h.2 c1 us r [] (newW nb ws) rfl hr1 (fun id _ => .inl (by rw [φ1])) hv1
  rw [w1] at hk9
  refine hk9.mono ?_
  rintro e w' ⟨v, d1, rfl, rfl, hv2, T2⟩
  have G := T2.grow
  have dσ1 : ∀ i, d1.σ i = if nb ≤ i then (match ws[i - nb]? with | some x => some (.row x.1 x.2.1 x.2.2) | none => none) else none := by
    intro i
    rw [T2.σ, σ1, newW, app_rows]
    cases ws[i - nb]? <;> rfl
  generalize hd : (⟨d1.w, c.B, fun i => if nb ≤ i ∧ i < nb + ws.length then d1.φ i else c.φ i, app c.σ (newW nb ws), c.X, c.Y⟩ : Cx) = d
  have dw : d.w = d1.w := by rw [← hd]
  have dB : d.B = c.B := by rw [← hd]
  have dX : d.X = c.X := by rw [← hd]
  have dY : d.Y = c.Y := by rw [← hd]
  have dφ : ∀ i, d.φ i = if nb ≤ i ∧ i < nb + ws.length then d1.φ i else c.φ i := by rw [← hd]; intro i; rfl
  have dσ : ∀ i, d.σ i = if nb ≤ i then (match ws[i - nb]? with | some x => some (.row x.1 x.2.1 x.2.2) | none => c.σ i) else c.σ i := by
    intro i
    rw [← hd]
    show app c.σ (newW nb ws) i = _
    rw [newW, app_rows]
    cases ws[i - nb]? <;> rfl
  have stay : ∀ b, b < c.w.heap.size → (c.X b → c.Y b = .no) → d.w.heap[b]? = c.w.heap[b]? := fun b hb hy => by
    rw [dw]
    have := G.stay b (by rw [w1]; exact hb) (T1 b) (fun _ => by
      rw [Y1]
      by_cases hx : c.X b
      · rw [Yx_pos _ hx]; exact hy hx
      · exact Yx_neg _ hx)
    rw [this, w1]
  have size : c.w.heap.size ≤ d.w.heap.size := by rw [dw, ← w1]; exact G.size
  have newT : ∀ b, d1.T b → c.w.heap.size ≤ b := fun b hb => by
    rcases G.held b hb with h9 | h9
    · exact absurd h9 (T1 b)
    · rw [← w1]; exact h9
  have names : Names c d := by
    intro i x hx
    rw [dφ]
    by_cases h1 : nb ≤ i ∧ i < nb + ws.length
    · rcases hfr i h1.1 with h2 | h2
      · rw [h2] at hx; cases hx
      · omega
    · rw [if_neg h1]; exact hx
  have dlive : ∀ i o, d.σ i = some o → (c.σ i = some o ∧ d.φ i = c.φ i ∧ ¬ (nb ≤ i ∧ i < nb + ws.length)) ∨ (nb ≤ i ∧ i < nb + ws.length ∧ d1.σ i = some o ∧ d.φ i = d1.φ i ∧ ∃ x ∈ ws, o = .row x.1 x.2.1 x.2.2) := by
    intro i o ho
    by_cases h1 : nb ≤ i ∧ i < nb + ws.length
    · right
      have h2 : i - nb < ws.length := by omega
      rw [dσ, if_pos h1.1, List.getElem?_eq_getElem h2] at ho
      exact ⟨h1.1, h1.2, by rw [dσ1, if_pos h1.1, List.getElem?_eq_getElem h2]; exact ho, by rw [dφ, if_pos h1], _, List.getElem_mem h2, by simp at ho; exact ho.symm⟩
    · left
      refine ⟨?_, by rw [dφ, if_neg h1], h1⟩
      rw [dσ] at ho
      by_cases h2 : nb ≤ i
      · rw [if_pos h2, List.getElem?_eq_none_iff.2 (by omega)] at ho; exact ho
      · rw [if_neg h2] at ho; exact ho
  have dT : ∀ b, d.T b → c.T b ∨ (c.w.heap.size ≤ b ∧ d1.T b) := by
    rintro b ⟨i, o, e1, e2⟩
    rcases dlive i o e1 with ⟨f1, f2, _⟩ | ⟨_, _, f3, f4, _⟩
    · exact .inl ⟨i, o, f1, by rw [← f2]; exact e2⟩
    · rw [f4] at e2
      exact .inr ⟨newT b ⟨i, o, f3, e2⟩, i, o, f3, e2⟩
  have grow : Grow c d := by
    refine ⟨dX, dB, ?_, ?_, ?_, size, fun b hb _ hy => stay b hb hy, fun b hb => (dT b hb).imp id (·.1), fun b cs e f hb => (by have := G.shape b cs e f (by rw [w1]; exact hb); rw [dw]; exact this), dY, fun b k sz h1 h2 h3 h4 h5 => (by
      have := G.wild b k sz (T1 b) (by rw [X1]; exact .inr h2) (by rw [Y1, Yx_pos _ h2]; exact h3) h4 (by rw [w1]; exact h5)
      rw [dw]; exact this)⟩
    · rw [dw, G.out, w1]
    · rw [dw, G.osE, w1]
    · rw [dw, G.tape, w1]
  have base := hr.base
  have ok2 : ∀ b, b < d1.w.heap.size → d1.ok true b → d.ok true b := fun b _ ho => by
    have hge : c.w.heap.size ≤ b := by have := ho.1 rfl; rw [G.B, B1] at this; exact this
    refine ⟨fun _ => by rw [dB]; omega, fun ht => ?_, fun hx => ?_⟩
    · rcases dT b ht with h9 | h9
      · have := Tlt b h9; omega
      · exact ho.2.1 h9.2
    · rw [dX] at hx; have := hr.xlt b hx; omega
  have nm2 : ∀ i x, (nb ≤ i ∧ i < nb + ws.length) → d1.φ i = some x → d.φ i = some x := fun i x h1 h2 => by rw [dφ, if_pos h1]; exact h2
  have hrd : HR d := by
    refine ⟨fun i y2 e2 cl hs => ?_, fun i i' b e1 e2 e3 e4 => ?_, by rw [dB]; exact Nat.le_trans hr.base size, fun b hb => by rw [dX] at hb; exact Nat.lt_of_lt_of_le (hr.xlt b hb) size, hr.gl.grow grow⟩
    · rcases dlive i _ hs with ⟨f1, f2, _⟩ | ⟨h1, h2, f3, f4, x, hx, f5⟩
      · rcases hr.row i y2 e2 cl f1 with ⟨g1, g2⟩ | ⟨b, cs, g1, g2, g3', g4, g5⟩
        · exact .inl ⟨by rw [f2]; exact g1, g2⟩
        · refine .inr ⟨b, cs, by rw [f2]; exact g1, by rw [stay b (lt_of_blk g2) (fun h9 => absurd h9 g3'.2)]; exact g2, ⟨by rw [dB]; exact g3'.1, by rw [dX]; exact g3'.2⟩, g4, fun j x hj => ?_⟩
          obtain ⟨q, k1, k2, k3⟩ := g5 j x hj
          exact ⟨q, k1, k2, k3.mono grow names⟩
      · cases f5
        rcases T2.hr.row i _ _ _ f3 with ⟨g1, g2⟩ | ⟨b, cs, g1, g2, g3', g4, g5⟩
        · exact .inl ⟨by rw [f4]; exact g1, g2⟩
        · have hge := newT b ⟨i, _, f3, g1⟩
          refine .inr ⟨b, cs, by rw [f4]; exact g1, by rw [dw]; exact g2, ⟨fun _ => by rw [dB]; omega, fun hx2 => by rw [dX] at hx2; have := hr.xlt b hx2; omega⟩, g4, fun j x' hj => ?_⟩
          obtain ⟨q, m1, m2, m3⟩ := g5 j x' hj
          exact ⟨q, m1, m2, VR.yg dw ok2 nm2 (YgL_iff.1 (hyw x hx) x' (List.mem_of_getElem? hj)) m3⟩
    · obtain ⟨o1, ho1⟩ := Option.ne_none_iff_exists'.1 e1
      obtain ⟨o2, ho2⟩ := Option.ne_none_iff_exists'.1 e2
      rcases dlive i o1 ho1 with ⟨f1, f2, _⟩ | ⟨_, _, f3, f4, _⟩ <;> rcases dlive i' o2 ho2 with ⟨j1, j2, _⟩ | ⟨_, _, j3, j4, _⟩
      · exact hr.inj i i' b (by rw [f1]; simp) (by rw [j1]; simp) (by rw [← f2]; exact e3) (by rw [← j2]; exact e4)
      · rw [j4] at e4
        have := newT b ⟨i', _, j3, e4⟩
        have := Tlt b ⟨i, _, f1, by rw [← f2]; exact e3⟩
        omega
      · rw [f4] at e3
        have := newT b ⟨i, _, f3, e3⟩
        have := Tlt b ⟨i', _, j1, by rw [← j2]; exact e4⟩
        omega
      · rw [f4] at e3
        rw [j4] at e4
        exact T2.hr.inj i i' b (by rw [f3]; simp) (by rw [j3]; simp) e3 e4
  exact ⟨v, d, rfl, dw, VR.yg dw ok2 nm2 hy hv2, grow, names, hrd, by rw [← hd], fun i hi => by
    rw [dφ] at hi
    by_cases h1 : nb ≤ i ∧ i < nb + ws.length
    · exact .inr (by omega)
    · rw [if_neg h1] at hi; exact .inl hi⟩

theorem VRm.bo (hr : HR c) (hσ : ∀ (j : Nat) (x : RW), rws[j]? = some x → c.σ x.1 = some (.row x.2.1 x.2.2.1 x.2.2.2)) (hne : ∀ x ∈ rws, x.2.2.2 ≠ []) (hw : d.w = c.w) (hk : ∀ fr b, b < c.w.heap.size → c.ok fr b → d.ok false b)
    (hrow : ∀ (j : Nat) (x : RW) b, rws[j]? = some x → c.φ x.1 = some (some b) → d.ok false b) {b : Nat} : ∀ {cs : List AV} {off : Nat}, VRm c b off cs → VRm d b off (boL rws cs)
  | [], _, _ => trivial
  | a :: r, off, k => by
    rw [VRm] at k
    rw [boL, VRm]
    obtain ⟨⟨u, h1, h2, h3⟩, h4⟩ := k
    exact ⟨⟨u, by rw [hw]; exact h1, h2, VR.bo hr hσ hne hw hk hrow h3⟩, VRm.bo hr hσ hne hw hk hrow h4⟩
theorem VR.bo1 (hr : HR c) (hσ : ∀ (j : Nat) (x : RW), rws[j]? = some x → c.σ x.1 = some (.row x.2.1 x.2.2.1 x.2.2.2)) (hne : ∀ x ∈ rws, x.2.2.2 ≠ []) (hw : d.w = c.w) (hk : ∀ fr b, b < c.w.heap.size → c.ok fr b → d.ok false b)
    (hrow : ∀ (j : Nat) (x : RW) b, rws[j]? = some x → c.φ x.1 = some (some b) → d.ok false b) {id : Nat} {cs : List AV} (hc : cellsAt rws id = some cs) : ∃ b, c.φ id = some (some b) ∧ b < c.w.heap.size ∧ d.ok false b ∧ VRm d b 0 (boL rws cs) := by
  obtain ⟨j, x, h1, rfl, rfl⟩ := cellsAt_mem hc
  rcases hr.row x.1 _ _ _ (hσ j x h1) with ⟨_, h2⟩ | ⟨b, vs, g1, g2, g3, g4, g5⟩
  · exact absurd h2 (hne x (List.mem_of_getElem? h1))
  · refine ⟨b, g1, lt_of_blk g2, hrow j x b h1 g1, VRm.bo hr hσ hne hw hk hrow (VRm_iff.2 fun q a hq => ?_)⟩
    obtain ⟨u, k1, k2, k3⟩ := g5 q a hq
    exact ⟨u, by rw [Nat.zero_add]; simp [World.cell?, g2, k1], k2, k3⟩
theorem boL_map (rws : List RW) : ∀ l : List AV, boL rws l = l.map (bo rws)
  | [] => rfl
  | a :: l => by rw [boL, boL_map rws l]; rfl
/-- a whole slice that is held, of slices that are held -/
theorem VR.bo2 (hr : HR c) (hσ : ∀ (j : Nat) (x : RW), rws[j]? = some x → c.σ x.1 = some (.row x.2.1 x.2.2.1 x.2.2.2)) (hne : ∀ x ∈ rws, x.2.2.2 ≠ []) (hw : d.w = c.w) (hk : ∀ fr b, b < c.w.heap.size → c.ok fr b → d.ok false b)
    (hrow : ∀ (j : Nat) (x : RW) b, rws[j]? = some x → c.φ x.1 = some (some b) → d.ok false b) {id n : Nat} {cs : List AV} (hc : cellsAt rws id = some cs) (hn : n ≤ cs.length) (h0 : 0 < n) {u : Value} (k : VR c (.os id 0 n 1) u) : VR d (.fs false (boL rws (cs.take n)) n) u := by
  obtain ⟨b, g1, g2, g3, g4⟩ := VR.bo1 hr hσ hne hw hk hrow hc
  obtain ⟨A, k', rfl, hk', hm⟩ := k
  refine ⟨A, k', rfl, hk', fun _ => ?_⟩
  rcases hm with ⟨_, h2⟩ | ⟨b', h1, rfl, _⟩
  · omega
  · rw [g1] at h1; cases h1
    refine ⟨b, 0, rfl, by rw [hw]; exact g2, g3, VRm_iff.2 fun q a hq => ?_⟩
    rw [boL_map, List.getElem?_map, Option.map_eq_some_iff] at hq
    obtain ⟨a', h8, rfl⟩ := hq
    rw [List.getElem?_take] at h8
    split at h8
    · exact VRm_iff.1 g4 q (Go.Proofs.YtdenddhdeloceaaGreatDoor.bo rws a') (by rw [boL_map, List.getElem?_map, h8]; rfl)
    · cases h8
end Go.Proofs.YtdenddhdeloceaaGreatDoor
namespace Go.Proofs.YtdenddhdeloceaaGreatDoor
open Go.RowKit
set_option maxRecDepth 100000
set_option maxHeartbeats 2000000 in
theorem land_os (fr : Bool) (d : Dk) (nb : Nat) (h : okD d) : ASound Tryz.prog 52 [aDk fr d, .fn 80 []] nb (.ret (.tup [.agg [.os nb 0 d.sectors.length 1, .v (.slice none 0 0)], .v (.int .i64 0)]) (newW nb ((true, 22, osR (nb + 1) d.sectors.length (gS (flushD d))) :: famW 5 d.sectors.length (gS (flushD d))))) := by
  refine ok_52.sound (by simp) ⟨al_aDk d, trivial, trivial⟩ ?_
  have hf := h.few
  have hc := fun nb => dcheck_spec fr d nb (by omega)
  rw [dkE_ok h] at hc
  have hl := clone_land fr d
  simp only [aDk, fL, fWrs] at hc hl
  simp only [ac_52, TT, ↓reduceIte, Nat.reduceEqDiff, Nat.reduceAdd, Nat.reduceMul, reduceCtorEq, Nat.reduceLeDiff]
  refine ⟨_, hc _, ?_⟩
  simp only [not_true_eq_false, TT, ↓reduceIte, Nat.reduceEqDiff, Nat.reduceAdd, Nat.reduceMul, reduceCtorEq, Nat.reduceLeDiff]
  refine ⟨_, hl _ h, ?_⟩
  simp only [TT, ↓reduceIte, Nat.reduceEqDiff, Nat.reduceAdd, Nat.reduceMul, reduceCtorEq, Nat.reduceLeDiff]
  have hne : 0 < d.sectors.length := by omega
  refine AWc.family (L_ld d) (fun i => i ≤ d.cache.length) (fun i => d.cache.length - i) 0 (Nat.zero_le _) ?_ ?_
  · simp only [L_ld]
    refine fam_land d (a0 := 100000) (a1 := 1000000) (a2 := 900000) (secF d 0) (by omega) (by decide) (by intro a ha; simp at ha; omega) rfl (by simp [ET]) (by simp [ET]) (by simp [ET]) (by simp [ET, fWrs]) (by simp [ET]) (by simp [ET]) ?_ ?_ ?_ ?_
    · simp only [s_put1, newW, app_rows]
      rw [if_neg (by decide), if_neg (by decide), if_neg (by decide), if_pos True.intro]
    · simp only [s_put1]
      rw [if_pos True.intro]; rfl
    · simp only [s_put1, newW, app_rows]
      rw [if_neg (by decide), if_neg (by decide), if_pos (by decide)]; rfl
    · intro j hj
      rw [s_put1, if_neg (by omega), s_put1, if_neg (by omega), newW, app_rows, if_pos (by omega), show 900001 + j - 900000 = j + 1 from by omega, List.getElem?_cons_succ, famW, List.getElem?_map, List.getElem?_range hj]
      have hz : eB (secF d 0 j) = gS d j := by simp only [secF, List.take_zero, landL, gS]
      rw [hz]; rfl
  · intro i hi
    have hfx : ∀ j, heapOf (fixD d) (900001 + j) = none := fun j => by
      simp only [fixD, heapOf]
      rw [if_neg (by omega), if_neg (by omega), if_neg (by omega)]
    have l0 : heapOf (fixD d ++ famL 900001 d.sectors.length (fun j => .row true 5 (eB (secF d i j)))) 0 = some zP := by rw [heapOf_append]; simp [heapOf]
    have l1 : heapOf (fixD d ++ famL 900001 d.sectors.length (fun j => .row true 5 (eB (secF d i j)))) 1 = some (.row true 50 [.os 2 0 d.sectors.length 1, .fs true (eWrs true d.cache) d.cache.length]) := by rw [heapOf_append]; simp [heapOf, fWrs]
    have l2 : heapOf (fixD d ++ famL 900001 d.sectors.length (fun j => .row true 5 (eB (secF d i j)))) 2 = some (.row true 22 (osR 900001 d.sectors.length (gS d))) := by rw [heapOf_append]; simp [heapOf]
    have lF : ∀ j, j < d.sectors.length → heapOf (fixD d ++ famL 900001 d.sectors.length (fun j => .row true 5 (eB (secF d i j)))) (900001 + j) = some (.row true 5 (eB (secF d i j))) := fun j hj => by
      rw [heapOf_append, hfx j]
      simp only
      rw [s_heapFam, if_pos (by omega), show 900001 + j - 900001 = j from by omega]
    simp only [L_ld, fWrs]
    generalize hH : heapOf (fixD d ++ famL 900001 d.sectors.length (fun j => .row true 5 (eB (secF d i j)))) = H at l0 l1 l2 lF
    by_cases hlt : i < d.cache.length
    · obtain ⟨w, hw, e1, e0⟩ := lt_at hlt
      obtain ⟨g1, g2⟩ := get_Wrs (fr := true) hw
      have hbw := h.cache w (List.mem_of_getElem? hw)
      have s1 : 0 ≤ w.sec := Classical.byContradiction fun hx => hbw (.inl (by omega))
      have s2 : w.sec < (d.sectors.length : Int) := Classical.byContradiction fun hx => hbw (.inr (.inl (by omega)))
      obtain ⟨k, hk⟩ := Int.eq_ofNat_of_zero_le s1
      have hkl : k < d.sectors.length := by omega
      have c1 : ((0 : Int) ≤ (k : Int) ∧ (k : Int) < (d.sectors.length : Int)) = True := eq_true ⟨by omega, by omega⟩
      have hat := allTrue_spec (i : Int)
      have hol : (osR 900001 d.sectors.length (gS d))[k]? = some (.os (900001 + k) 0 64 1) := by
        have hs := h.secs _ (List.getElem_mem hkl)
        simp [osR, hkl, gS, len_B, hs]
      have lk := lF k hkl
      simp only [e1, e0, g1, g2, l1, hk, Int.toNat_natCast, TT, ↓reduceIte, Nat.reduceEqDiff, Nat.reduceAdd, Nat.reduceMul, reduceCtorEq, Nat.reduceLeDiff]
      refine ⟨_, _, _, rfl, hat _, ?_⟩
      have hdl : w.data.length = 64 := Classical.byContradiction fun hx => hbw (.inr (.inr hx))
      have hq : (900001 + k = 2400000) = False := eq_false (by omega)
      have hsl : (secF d i k).length = 64 := secF_len h i hkl
      have hsn : setN (eB (secF d i k)) 0 (eB w.data) = eB w.data := by
        rw [setN_B (by omega), hdl, List.drop_of_length_le (by omega), List.append_nil]
      have h64 : Nat.min 64 64 = 64 := rfl
      have htk : List.take 64 (eB w.data) = eB w.data := List.take_of_length_le (by rw [len_B, hdl]; exact Nat.le_refl _)
      simp only [l1, l2, c1, hol, lk, hk, hq, len_B, hdl, hsl, h64, htk, hsn, Int.toNat_natCast, Nat.zero_add, TT, ↓reduceIte, Nat.reduceEqDiff, Nat.reduceAdd, Nat.reduceMul, reduceCtorEq, Nat.reduceLeDiff]
      rw [if_pos (by decide)]
      refine ⟨by rfl, ?_⟩
      refine famC_next (i + 1) (by omega) (by omega) ?_
      have w1 : IntKind.i64.wrap ((i : Int) + 1) = ((i + 1 : Nat) : Int) := by rw [wrap64 (by omega)]; omega
      have hz : (zsF d)[i]? = some (true, w) := zip_at (List.getElem?_replicate_of_lt hlt) hw
      have hsn1 : ∀ j, j < d.sectors.length → secF d (i + 1) j = if j = k then w.data else secF d i j := fun j hj => by
        have hll := landL_len ((zsF d).take i) d.sectors
        unfold secF
        rw [landL_snoc hz]
        simp only [if_true, hk, Int.toNat_natCast]
        rw [List.getElem?_set]
        by_cases hjk : k = j
        · subst hjk; rw [if_pos rfl, if_pos (by omega), if_pos rfl]; rfl
        · rw [if_neg hjk, if_neg (fun e => hjk e.symm)]
      rw [w1]
      refine fam_land d (a0 := 0) (a1 := 1) (a2 := 2) (secF d (i + 1)) (by omega) (by decide) (by intro a ha; simp at ha; omega) rfl (by simp [ET]) (by simp [ET]) (by simp [ET]) (by simp [ET, fWrs]) (by simp [ET]) (by simp [ET]) ?_ ?_ ?_ ?_
      · rw [s_put1, if_neg (by omega), s_put1, if_neg (by omega), s_put1, if_neg (by omega)]; exact l0
      · rw [s_put1, if_neg (by omega), s_put1, if_neg (by omega), s_put1, if_neg (by omega)]; exact l1
      · rw [s_put1, if_neg (by omega), s_put1, if_neg (by omega), s_put1, if_neg (by omega)]; exact l2
      · intro j hj
        rw [hsn1 j hj, s_put1]
        by_cases hjk : j = k
        · rw [if_pos (by omega), if_pos hjk]
        · rw [if_neg (by omega), if_neg hjk, s_put1, if_neg (by omega), s_put1, if_neg (by omega)]
          exact lF j hj
    · obtain rfl : i = d.cache.length := by omega
      have e1 : ¬ ((d.cache.length : Int) < (d.cache.length : Int)) := by omega
      have l0' : H 0 = some (.row true 50 [.v (.slice none 0 0), .v (.slice none 0 0)]) := l0
      simp only [e1, l0', l1, TT, ↓reduceIte, Nat.reduceEqDiff, Nat.reduceAdd, Nat.reduceMul, reduceCtorEq, Nat.reduceLeDiff]
      have hzl : (zsF d).take d.cache.length = zsF d := List.take_of_length_le (by simp [zsF])
      have hos : osR 900001 d.sectors.length (gS d) = osR 900001 d.sectors.length (fun j => eB (secF d d.cache.length j)) := osR_len fun j hj => by
        rw [len_B, secF_len h _ hj]
        simp only [gS, len_B, List.getElem?_eq_getElem hj]
        exact h.secs _ (List.getElem_mem hj)
      rw [hos] at l2
      have hgf : ∀ j, eB (secF d d.cache.length j) = gS (flushD d) j := fun j => by unfold secF gS; rw [hzl]; rfl
      rw [funext hgf] at l2
      have lG : ∀ j, j < d.sectors.length → H (900001 + j) = some (.row true 5 (gS (flushD d) j)) := fun j hj => by rw [lF j hj, hgf]
      have hpu : ∀ j, PuL (gS (flushD d) j) := fun j => al_B _
      generalize gS (flushD d) = g at l2 lG hpu
      refine Ends.fam (sid := 2) (b := 900001) (k := d.sectors.length) (r0 := .tup [.agg [.os 2 0 d.sectors.length 1, .v (.slice none 0 0)], .v (.int .i64 0)]) (.inr rfl) (by simp [ET]) (by decide) (by omega) ?_ (fun j hj => ?_) (fun j _ => hpu j) ⟨⟨by simp [Al], trivial, trivial⟩, trivial, trivial⟩ (fun ρ e => by simp [ren, renL, e])
      · simp only [s_put1]
        rw [if_neg (by decide), if_neg (by decide)]; exact l2
      · simp only [s_put1]
        rw [if_neg (by omega), if_neg (by omega)]; exact lG j hj
theorem app_lt {nb i : Nat} (σ : Heap) (ws : List (Bool × Nat × List AV)) (h : i < nb) : app σ (newW nb ws) i = σ i := by
  rw [newW, app_rows, if_neg (by omega)]
theorem app_0 {nb : Nat} (σ : Heap) (x : Bool × Nat × List AV) (ws : List (Bool × Nat × List AV)) : app σ (newW nb (x :: ws)) nb = some (.row x.1 x.2.1 x.2.2) := by
  rw [newW, app_rows, if_pos (Nat.le_refl _), Nat.sub_self]; rfl
theorem app_fam {nb n e5 j : Nat} (σ : Heap) (x : Bool × Nat × List AV) (g : Nat → List AV) (h : j < n) : app σ (newW nb (x :: famW e5 n g)) (nb + 1 + j) = some (.row true e5 (g j)) := by
  rw [newW, app_rows, if_pos (by omega), show nb + 1 + j - nb = j + 1 from by omega, List.getElem?_cons_succ, famW, List.getElem?_map, List.getElem?_range h]; rfl
/-- a disk that is held -/
abbrev hD (id n : Nat) : AV := .agg [.os id 0 n 1, .v (.slice none 0 0)]
abbrev hW (nb n : Nat) (g : Nat → List AV) : List (Nat × Option AObj) := newW nb ((true, 22, osR (nb + 1) n g) :: famW 5 n g)
theorem flush_os (fr : Bool) (d : Dk) (nb : Nat) (h : okD d) : ASound Tryz.prog 43 [aDk fr d] nb (.ret (.tup [hD nb d.sectors.length, .v (.int .i64 0)]) (hW nb d.sectors.length (gS (flushD d)))) := by
  refine ok_43.sound (by simp) ⟨al_aDk d, trivial⟩ ?_
  have hf := h.few
  have hpu : ∀ j, PuL (gS (flushD d) j) := fun j => al_B _
  have hc := land_os fr d
  simp only [aDk, fL, fWrs] at hc
  simp only [ac_43, TT, ↓reduceIte, Nat.reduceEqDiff, Nat.reduceAdd, Nat.reduceMul, reduceCtorEq, Nat.reduceLeDiff]
  refine ⟨_, hc _ h, ?_⟩
  generalize gS (flushD d) = g at hpu
  have k1 := fun (σ : Heap) => app_lt (nb := 400000) (i := 100000) σ ((true, 22, osR (400000 + 1) d.sectors.length g) :: famW 5 d.sectors.length g) (by decide)
  simp only [k1, TT, ↓reduceIte, Nat.reduceEqDiff, Nat.reduceAdd, Nat.reduceMul, reduceCtorEq, Nat.reduceLeDiff]
  refine Ends.fam (sid := 400000) (b := 400001) (k := d.sectors.length) (r0 := .tup [hD 400000 d.sectors.length, .v (.int .i64 0)]) (.inr rfl) (by simp [ET]) (by decide) (by omega) ?_ (fun j hj => ?_) (fun j _ => hpu j) ⟨⟨by simp [Al], trivial, trivial⟩, trivial, trivial⟩ (fun ρ e => by simp [ren, renL, e])
  · simp only [s_put1]
    rw [if_neg (by decide)]; exact app_0 _ _ _
  · simp only [s_put1]
    rw [if_neg (by omega)]; exact app_fam _ _ _ hj
set_option maxHeartbeats 4000000 in
theorem store_os (fr fp : Bool) (d : Dk) (p : Pt) (nb : Nat) (h : cleanD d) (hp : okP p) : ASound Tryz.prog 21 [aDk fr d, aPt fp p] nb (.ret (.tup [hD nb d.sectors.length, .v (.int .i64 0)]) (hW nb d.sectors.length (gS (stD d (regP p) (encP p).1)))) := by
  refine ok_21.sound (by simp) ⟨al_aDk d, al_aPt p, trivial⟩ ?_
  have hf := h.ok.few
  have h16 := h.few
  have hl : d.sectors.length ≤ 140737488355328 := by omega
  have ha := asked_spec fr d
  have he := pencode_spec fp p
  simp only [aDk, fL, fWrs] at ha
  simp only [aPt, fB] at he
  rw [askE_clean h] at ha
  have hE : ptE p = 0 := (okP_iff p).2 hp
  have hen : encP p = ((encP p).1, 0) := by rw [encP, if_pos hE]
  have hlen := encP_len hp
  have h0 : 0 ≤ p.epoch ∧ p.epoch ≤ 1099511627776 := by have := hp.nums p.epoch (by simp [numsP]); omega
  have hsl : slotP p + 8 ≤ d.sectors.length := by unfold slotP; omega
  have hs16 : slotP p ≤ 8 := by unfold slotP; omega
  have hrem : IntKind.i64.wrap (Int.tmod p.epoch 2 * 8) = (slotP p : Int) := by
    rw [Int.tmod_eq_emod_of_nonneg h0.1, wrap64 (by omega)]
    unfold slotP; omega
  have z2 : ((2 : Int) = 0) = False := eq_false (by decide)
  have hov : d.cache.length + 8 ≤ 4096 := by rw [h.cache]; simp
  have hpa := putAll_spec fr true d (slotP p : Int) (encP p).1
  rw [putAllD_512 h.ok hlen hsl, if_pos hov] at hpa
  have hst : stD d (regP p) (encP p).1 = flushD (putD d (slotP p) (encP p).1) := rfl
  have hokD := okD_put (data := (encP p).1) h.ok hlen hsl hov
  have hfl := flush_os true (putD d (slotP p) (encP p).1)
  have hdl : (putD d (slotP p) (encP p).1).sectors.length = d.sectors.length := rfl
  rw [hst]
  rw [hen] at he
  simp only [aDk, fB, fL, fWrs, hdl] at hpa hfl
  have hpu : ∀ j, PuL (gS (flushD (putD d (slotP p) (encP p).1)) j) := fun j => al_B _
  generalize gS (flushD (putD d (slotP p) (encP p).1)) = g at hfl hpu
  generalize putD d (slotP p) (encP p).1 = D at hfl hokD hpa hdl
  simp only [ac_21, TT, ↓reduceIte, Nat.reduceEqDiff, Nat.reduceAdd, Nat.reduceMul, reduceCtorEq, Nat.reduceLeDiff]
  refine ⟨_, ha _ hl, ?_⟩
  simp only [not_true_eq_false, TT, ↓reduceIte, Nat.reduceEqDiff, Nat.reduceAdd, Nat.reduceMul, reduceCtorEq, Nat.reduceLeDiff]
  refine ⟨_, he _, ?_⟩
  simp only [z2, hrem, not_true_eq_false, TT, ↓reduceIte, Nat.reduceEqDiff, Nat.reduceAdd, Nat.reduceMul, reduceCtorEq, Nat.reduceLeDiff]
  refine ⟨_, hpa _ hl (by omega) (by omega), ?_⟩
  simp only [not_true_eq_false, TT, ↓reduceIte, Nat.reduceEqDiff, Nat.reduceAdd, Nat.reduceMul, reduceCtorEq, Nat.reduceLeDiff]
  refine ⟨_, hfl _ hokD, ?_⟩
  have k1 := fun (σ : Heap) => app_lt (nb := 3300000) (i := 200000) σ ((true, 22, osR (3300000 + 1) d.sectors.length g) :: famW 5 d.sectors.length g) (by decide)
  simp only [k1, TT, ↓reduceIte, Nat.reduceEqDiff, Nat.reduceAdd, Nat.reduceMul, reduceCtorEq, Nat.reduceLeDiff]
  refine Ends.fam (sid := 3300000) (b := 3300001) (k := d.sectors.length) (r0 := .tup [hD 3300000 d.sectors.length, .v (.int .i64 0)]) (.inr rfl) (by simp [ET]) (by decide) (by omega) ?_ (fun j hj => ?_) (fun j _ => hpu j) ⟨⟨by simp [Al], trivial, trivial⟩, trivial, trivial⟩ (fun ρ e => by simp [ren, renL, e])
  · simp only [s_put1]
    rw [if_neg (by decide)]; exact app_0 _ _ _
  · simp only [s_put1]
    rw [if_neg (by omega)]; exact app_fam _ _ _ hj
end Go.Proofs.YtdenddhdeloceaaGreatDoor
namespace Go.Proofs.YtdenddhdeloceaaGreatDoor
open Go.RowKit
set_option maxRecDepth 100000
open Classical in
theorem runK_rows {σ : Heap} {r : AV} {W : List (Nat × Option AObj)} : ∀ {rws : List RW} {K : AV → List Nat → List (Nat × Option AObj) → Prop}, (∀ x ∈ rws, σ x.1 = some (.row x.2.1 x.2.2.1 x.2.2.2)) → K r (rws.map (·.1)) W → AM.runK σ (rowsM rws (.ret r W)) K
  | [], K, _, hk => hk
  | x :: rws, K, h, hk => by
    show AM.runK σ (rowM x.1 (.row x.2.1 x.2.2.1 x.2.2.2) (rowsM rws (.ret r W))) K
    rw [s_rowM, h x (by simp), s_rowK]
    exact runK_rows (fun y hy => h y (by simp [hy])) hk
/-- the rows of a disk that is held -/
def rowsD (id n : Nat) (g : Nat → List AV) : List RW := (id, true, 22, osR (id + 1) n g) :: (List.range n).map fun j => (id + 1 + j, true, 5, g j)
theorem cells_0 (id n : Nat) (g : Nat → List AV) : cellsAt (rowsD id n g) id = some (osR (id + 1) n g) := by simp [rowsD, cellsAt]
theorem cells_go : ∀ {rws : List RW} {id : Nat} {x : RW}, x ∈ rws → (rws.map (·.1)).Nodup → x.1 = id → cellsAt rws id = some x.2.2.2
  | [], _, _, h, _, _ => by cases h
  | y :: rws, id, x, h, hn, e => by
    rw [cellsAt]
    rw [List.map_cons, List.nodup_cons] at hn
    rcases List.mem_cons.1 h with rfl | h
    · rw [if_pos e.symm]
    · rw [if_neg, cells_go h hn.2 e]
      intro e2
      exact hn.1 (by rw [← e2, ← e]; exact List.mem_map_of_mem h)
theorem rowsD_nodup (id n : Nat) (g : Nat → List AV) : ((rowsD id n g).map (·.1)).Nodup := by
  rw [rowsD, List.map_cons, List.map_map, List.nodup_cons]
  have e : ((fun x : RW => x.1) ∘ fun j => ((id + 1 + j, true, 5, g j) : RW)) = (id + 1 + ·) := rfl
  rw [e]
  exact ⟨fun h => by rw [mem_rangeb] at h; simp only at h; omega, range_nodup (id + 1) n⟩
theorem cells_j {id n j : Nat} (g : Nat → List AV) (h : j < n) : cellsAt (rowsD id n g) (id + 1 + j) = some (g j) :=
  cells_go (x := (id + 1 + j, true, 5, g j)) (List.mem_cons_of_mem _ (List.mem_map.2 ⟨j, List.mem_range.2 h, rfl⟩)) (rowsD_nodup id n g) rfl
theorem boL_osR {id n : Nat} (D : Dk) (hn : D.sectors.length = n) : boL (rowsD id n (gS D)) (osR (id + 1) n (gS D)) = eL false D.sectors := by
  rw [boL_map]
  apply List.ext_getElem?
  intro j
  by_cases hj : j < n
  · simp only [osR, eL, List.getElem?_map, List.getElem?_range hj, Option.map_some, List.getElem?_eq_getElem (show j < D.sectors.length by omega)]
    rw [bo, cells_j (gS D) hj]
    simp only [gS, List.getElem?_eq_getElem (show j < D.sectors.length by omega), Option.getD_some, List.drop_zero, Nat.mul_one, len_B, tk_B, od_B]
  · have h1 : ((osR (id + 1) n (gS D)).map (bo (rowsD id n (gS D))))[j]? = none := List.getElem?_eq_none (by simp [osR]; omega)
    have h2 : (eL false D.sectors)[j]? = none := List.getElem?_eq_none (by rw [len_L]; omega)
    rw [h1, h2]
theorem held_H {id n : Nat} {D : Dk} (hn : D.sectors.length = n) (h0 : 0 < n) (hs : ∀ t ∈ D.sectors, t ≠ []) (hc : D.cache = []) (x : List AV) (c d : Cx) (hr : HR c) (hσ : ∀ (j : Nat) (x : RW), (rowsD id n (gS D))[j]? = some x → c.σ x.1 = some (.row x.2.1 x.2.2.1 x.2.2.2)) (hw : d.w = c.w)
    (hk : ∀ fr b, b < c.w.heap.size → c.ok fr b → d.ok false b) (hrow : ∀ (j : Nat) (x : RW) b, (rowsD id n (gS D))[j]? = some x → c.φ x.1 = some (some b) → d.ok false b) (us : List Value) (hv : VRt c (hD id n :: x) us) : VRt d (aDk false D :: odL x) us := by
  have hne : ∀ y ∈ rowsD id n (gS D), y.2.2.2 ≠ [] := by
    intro y hy
    rcases List.mem_cons.1 hy with rfl | hy
    · intro e; have := congrArg List.length e; simp [osR] at this; omega
    · obtain ⟨j, hj, rfl⟩ := List.mem_map.1 hy
      rw [List.mem_range] at hj
      simp only [gS, List.getElem?_eq_getElem (show j < D.sectors.length by omega), Option.getD_some]
      intro e
      exact hs _ (List.getElem_mem (show j < D.sectors.length by omega)) (by have := congrArg List.length e; rw [len_B] at this; exact List.eq_nil_of_length_eq_zero this)
  rw [VRt] at hv
  obtain ⟨u, us', rfl, h1, h2⟩ := hv
  rw [VRt]
  refine ⟨u, us', rfl, ?_, VRt.od hw hk h2⟩
  rw [VR] at h1
  obtain ⟨vs, rfl, h1⟩ := h1
  rw [VRl] at h1
  obtain ⟨v1, vs1, rfl, g1, h3, h4⟩ := h1
  rw [VRl] at h4
  obtain ⟨v2, vs2, rfl, g2, h5, h6⟩ := h4
  have h7 := VR.bo2 hr hσ hne hw hk hrow (cells_0 id n (gS D)) (n := n) (by simp [osR]) h0 h3
  rw [List.take_of_length_le (by simp [osR]), boL_osR D hn] at h7
  rw [aDk, VR]
  refine ⟨v1 :: v2 :: vs2, rfl, ?_⟩
  rw [VRl]
  refine ⟨v1, v2 :: vs2, rfl, g1, ?_, ?_⟩
  · rw [fL, hn]; exact h7
  · rw [VRl]
    rw [VRl] at h6
    refine ⟨v2, vs2, rfl, g2, ?_, h6⟩
    have hf : fWrs false D.cache = .fs false [] 0 := by rw [hc]; rfl
    rw [hf]
    exact Imp.nil false d v2 h5
theorem load_h {id n : Nat} {D : Dk} (hn : D.sectors.length = n) (h0 : 0 < n) (hl : n ≤ 2048) (hs : ∀ t ∈ D.sectors, t ≠ []) (hc : D.cache = []) (ho : octD D) (nb : Nat) : ASound Tryz.prog 23 [hD id n] nb
    (rowsM (rowsD id n (gS D)) (.ret (.tup [aPt true (loadD D).1, .v (.int .i64 (loadD D).2)]) [])) :=
  ASound.borrowG [] (rowsD id n (gS D)) (args' := [aDk false D]) (fun c d hr hσ hw hk hrow us hv => held_H hn h0 hs hc [] c d hr hσ hw hk hrow us hv) (load_spec false D nb ho (by omega)) (by simp)
    ⟨⟨trivial, trivial, trivial, trivial, yg_fB _, trivial⟩, trivial, trivial⟩ (by simp)
theorem store_h_bad {id n : Nat} {D : Dk} (hn : D.sectors.length = n) (h0 : 0 < n) (hl : n ≤ 2048) (hs : ∀ t ∈ D.sectors, t ≠ []) (hc : D.cache = []) (fp : Bool) (p : Pt) (e : Int) (he : storeD D p = (dk0, e)) (nb : Nat) : ASound Tryz.prog 21 [hD id n, aPt fp p] nb
    (rowsM (rowsD id n (gS D)) (.ret (.tup [aDk true dk0, .v (.int .i64 e)]) [])) := by
  have h := store_spec false false D p nb (by omega)
  rw [he] at h
  refine ASound.borrowG [] (rowsD id n (gS D)) (args' := [aDk false D, aPt false p]) (fun c d hr hσ hw hk hrow us hv => ?_) h (by simp) ⟨⟨⟨rfl, trivial⟩, ⟨rfl, trivial⟩, trivial⟩, trivial, trivial⟩ (by simp)
  have h2 := held_H hn h0 hs hc [aPt fp p] c d hr hσ hw hk hrow us hv
  have e2 : odL [aPt fp p] = [aPt false p] := by simp [odL, od, aPt, fB, od_B]
  rw [e2] at h2
  exact h2
end Go.Proofs.YtdenddhdeloceaaGreatDoor
namespace Go.Proofs.YtdenddhdeloceaaGreatDoor
open Go.RowKit
set_option maxRecDepth 100000
theorem cbit4_inj {a b : BitVec 32} (h : cbit4 a = cbit4 b) : a = b := cbit_inj (cbit_inj (cbit_inj (cbit_inj h)))
theorem cbyte_injc {a b : BitVec 32} {x : Int} (h : cbyte a x = cbyte b x) : a = b := by
  have h1 := cbit4_inj (cbit4_inj h)
  have h2 := congrArg (fun c => c ^^^ BitVec.ofInt 32 x) h1
  simpa [BitVec.xor_assoc] using h2
theorem cbyte_injx {a : BitVec 32} {x y : Int} (hx : 0 ≤ x ∧ x < 256) (hy : 0 ≤ y ∧ y < 256) (h : cbyte a x = cbyte a y) : x = y := by
  have h1 := cbit4_inj (cbit4_inj h)
  have h2 := congrArg (fun c => a ^^^ c) h1
  simp only [← BitVec.xor_assoc, BitVec.xor_self, BitVec.zero_xor] at h2
  have h3 := congrArg BitVec.toNat h2
  rw [BitVec.toNat_ofInt, BitVec.toNat_ofInt] at h3
  omega
theorem cgo_inj : ∀ (l : List Int) {a b : BitVec 32}, cgo a l = cgo b l → a = b
  | [], _, _, h => h
  | x :: l, a, b, h => cbyte_injc (cgo_inj l (a := cbyte a x) (b := cbyte b x) h)
theorem crc_set {l : List Int} {i : Nat} {x y : Int} (hl : l[i]? = some x) (hx : 0 ≤ x ∧ x < 256) (hy : 0 ≤ y ∧ y < 256) (hne : y ≠ x) : crc (l.set i y) ≠ crc l := by
  intro h
  have hi := List.getElem?_eq_some_iff.1 hl
  have el : l = l.take i ++ x :: l.drop (i + 1) := by rw [← hi.2, ← List.drop_eq_getElem_cons hi.1, List.take_append_drop]
  have es : l.set i y = l.take i ++ y :: l.drop (i + 1) := by rw [List.set_eq_take_append_cons_drop, if_pos hi.1]
  have h1 : cgo (~~~ 0#32) (l.set i y) = cgo (~~~ 0#32) l := by
    have h2 := congrArg (fun c => ~~~ c) h
    simpa [crc] using h2
  rw [es] at h1
  conv at h1 => rhs; rw [el]
  unfold cgo at h1
  rw [List.foldl_append, List.foldl_append, List.foldl_cons, List.foldl_cons] at h1
  exact hne (cbyte_injx hy hx (cgo_inj (l.drop (i + 1)) h1))
theorem low4_inj {c d : BitVec 32} (h : low4 c = low4 d) : c = d := by
  unfold low4 at h
  injection h with h0 h
  injection h with h1 h
  injection h with h2 h
  injection h with h3 _
  simp only [BitVec.toNat_ushiftRight, Nat.shiftRight_eq_div_pow] at h1 h2 h3
  apply BitVec.eq_of_toNat_eq
  have := c.isLt; have := d.isLt
  omega
theorem set_ne {l : List Int} {i : Nat} {x y : Int} (hl : l[i]? = some x) (hne : y ≠ x) : l.set i y ≠ l := by
  intro h
  have h1 : (l.set i y)[i]? = some y := by rw [List.getElem?_set_self (List.getElem?_eq_some_iff.1 hl).1]
  rw [h, hl] at h1
  exact hne (Option.some.inj h1).symm
/-- a sealed text with one octet that is another one is not opened -/
theorem open_set {m : List Int} {i : Nat} {x y : Int} (hm : okB m) (hl : (sealB m)[i]? = some x) (hy : 0 ≤ y ∧ y < 256) (hne : y ≠ x) : openB ((sealB m).set i y) = ([], 21) := by
  unfold sealB at hl ⊢
  by_cases h : i < m.length
  · rw [List.getElem?_append_left h] at hl
    rw [List.set_append, if_pos h, openB_app (low4_len _), if_neg]
    intro h9
    exact crc_set hl (hm x (List.mem_of_getElem? hl)) hy hne (low4_inj h9).symm
  · rw [List.getElem?_append_right (by omega)] at hl
    rw [List.set_append, if_neg h, openB_app (by rw [List.length_set]; exact low4_len _), if_neg]
    exact set_ne hl hne
theorem okB_rec {p : Pt} (h : okP p) (hp : okB p.data) : okB (encR (recP p)) := okB_enc (okR_P h) (fun t ht => by simp [recP] at ht; subst ht; exact hp)
/-- a point with one octet that is another one, of its region behind the length -/
theorem decP_set {p : Pt} {i : Nat} {x y : Int} (h : okP p) (hp : okB p.data) (hi : 2 ≤ i) (hl : (encP p).1[i]? = some x) (hy : 0 ≤ y ∧ y < 256) (hne : y ≠ x) : (decP ((encP p).1.set i y)).1 = pt0 ∧ (decP ((encP p).1.set i y)).2 ≠ 0 := by
  obtain ⟨t, e1, e2, e3, e4⟩ := encP_eq h
  rw [e1] at hl ⊢
  obtain ⟨j, rfl⟩ := Nat.exists_eq_add_of_le hi
  rw [show 2 + j = j + 1 + 1 from by omega] at hl ⊢
  rw [List.getElem?_cons_succ, List.getElem?_cons_succ] at hl
  rw [List.set_cons_succ, List.set_cons_succ]
  have ha : (256 * (((sealP p).length / 256 : Nat) : Int) + (((sealP p).length % 256 : Nat) : Int)).toNat = (sealP p).length := by omega
  rw [decP, if_neg (by rw [List.length_set]; omega), ha]
  unfold decP2
  rw [if_neg (by omega)]
  by_cases hj : j < (sealP p).length
  · rw [List.getElem?_append_left hj] at hl
    rw [List.set_append, if_pos hj]
    have ht : ((sealP p).set j y ++ t).take (sealP p).length = (sealP p).set j y := by rw [List.take_left' (by rw [List.length_set])]
    rw [ht]
    have hd : dec ((sealP p).set j y) = (rec0, 21) := by
      unfold dec
      have ho := open_set (m := encR (recP p)) (okB_rec h hp) hl hy hne
      unfold sealP
      rw [ho]; rfl
    rw [hd]
    exact ⟨rfl, show (21 : Int) ≠ 0 by decide⟩
  · rw [List.getElem?_append_right (by omega)] at hl
    have hx0 := e3 x (List.mem_of_getElem? hl)
    rw [List.set_append, if_neg hj, List.take_left, List.drop_left]
    have hd : dec (sealP p) = (recP p, 0) := dec_enc (okR_P h) (nums64 h)
    rw [hd]
    simp only [ne_eq, not_true_eq_false, if_false]
    rw [if_neg (show ¬ ((recP p).kind = 7 → False) from fun h => h rfl)]
    have ho : ofRec (recP p) = some p := rfl
    rw [ho]
    simp only
    rw [if_neg (fun h9 => h9 ((okP_iff p).2 h)), if_pos]
    · exact ⟨rfl, by decide⟩
    · exact ⟨y, List.mem_set (List.getElem?_eq_some_iff.1 hl).1 y, by omega⟩
end Go.Proofs.YtdenddhdeloceaaGreatDoor
namespace Go.Proofs.YtdenddhdeloceaaGreatDoor
open Go.RowKit
/-- a region put, and a crash that keeps some of its sectors -/
def crP (d : Dk) (k : Nat) (data : List Int) (keep : List Bool) : Dk := crashD (putD d (8 * k) data) keep
theorem landL_out : ∀ (l : List (Bool × Wr)) (ss : List (List Int)) (j : Nat), (∀ q ∈ l, q.2.sec.toNat ≠ j) → (landL ss l)[j]? = ss[j]?
  | [], _, _, _ => rfl
  | (k, w) :: l, ss, j, h => by
    rw [landL, landL_out l _ j fun q hq => h q (by simp [hq])]
    split
    · rw [List.getElem?_set, if_neg (h (k, w) (by simp))]
    · rfl
theorem mem_putL {s : Nat} {data : List Int} {n : Nat} {w : Wr} (h : w ∈ putL s data n) : ∃ i, i < n ∧ w = ⟨((s + i : Nat) : Int), chunk data i⟩ := by
  unfold putL at h
  obtain ⟨i, hi, rfl⟩ := List.mem_map.1 h
  exact ⟨i, List.mem_range.1 hi, rfl⟩
theorem crP_sectors {d : Dk} (h : cleanD d) (k : Nat) (data : List Int) (keep : List Bool) : (crP d k data keep).sectors = landL d.sectors (keep.zip (putL (8 * k) data 8)) := by
  unfold crP crashD putD; rw [h.cache]; rfl
theorem crP_mem {k : Nat} {data : List Int} {keep : List Bool} {q : Bool × Wr} (h : q ∈ keep.zip (putL (8 * k) data 8)) : ∃ i, i < 8 ∧ q.2 = ⟨((8 * k + i : Nat) : Int), chunk data i⟩ := mem_putL (List.of_mem_zip h).2
theorem crP_clean {d : Dk} (h : cleanD d) {k : Nat} {data : List Int} (hd : data.length = 512) (keep : List Bool) : cleanD (crP d k data keep) := by
  have hs := crP_sectors h k data keep
  have hl : (crP d k data keep).sectors.length = d.sectors.length := by rw [hs, landL_len]
  have hc : (crP d k data keep).cache = [] := rfl
  refine ⟨⟨?_, fun t ht => ?_, fun w hw => by rw [hc] at hw; cases hw⟩, by rw [hl]; exact h.few, hc⟩
  · have := h.ok.few; rw [hl, hc]; simp only [List.length_nil]; omega
  · rw [hs] at ht
    refine landL_p (p := fun t => t.length = 64) _ _ h.ok.secs (fun q hq => ?_) t ht
    obtain ⟨i, hi, e⟩ := crP_mem hq
    rw [e]; exact chunk_len hd (by omega)
theorem crP_other {d : Dk} (h : cleanD d) {k j : Nat} (hne : j ≠ k) {data : List Int} (hd : data.length = 512) (keep : List Bool) : regD (crP d k data keep) j = regD d j := by
  unfold regD getD
  have : ∀ i ∈ List.range 8, secAt (crP d k data keep) (8 * j + i) = secAt d (8 * j + i) := fun i hi => by
    rw [List.mem_range] at hi
    rw [secAt_nil (crP_clean h hd keep).cache, secAt_nil h.cache, crP_sectors h, landL_out]
    intro q hq e
    obtain ⟨i', hi', e'⟩ := crP_mem hq
    rw [e'] at e
    simp only [Int.toNat_natCast] at e
    omega
  rw [List.flatMap_def, List.flatMap_def, List.map_congr_left this]
theorem zip_pre {α β : Type} : ∀ (l : List β) (a b : List α), (∀ i, i < l.length → a[i]? = b[i]?) → a.zip l = b.zip l
  | [], a, b, _ => by simp
  | x :: l, a, b, h => by
    have h0 := h 0 (by simp)
    cases a with
    | nil => cases b with
      | nil => rfl
      | cons y b => simp at h0
    | cons z a => cases b with
      | nil => simp at h0
      | cons y b =>
        simp at h0
        rw [List.zip_cons_cons, List.zip_cons_cons, h0, zip_pre l a b fun i hi => by simpa using h (i + 1) (by simpa using hi)]
theorem crP_all {d : Dk} (h : cleanD d) (k : Nat) (data : List Int) {keep : List Bool} (ha : ∀ n, n < 8 → keep[n]? = some true) : crP d k data keep = stD d k data := by
  unfold crP stD flushD crashD
  congr 2
  refine zip_pre _ _ _ fun i hi => ?_
  have hl : (putD d (8 * k) data).cache.length = 8 := by unfold putD; rw [h.cache]; simp [putL_len]
  rw [hl] at hi ⊢
  rw [ha i hi, List.getElem?_replicate_of_lt hi]
theorem pick_ok {x y : Pt × Int} (h : x.2 = 0 ∨ y.2 = 0) : (pickP x y).2 = 0 := by
  unfold pickP
  rw [if_neg (by omega)]
  split <;> rfl
theorem pick_le {x y : Pt × Int} {n : Nat} (hx : x.1.data.length ≤ n) (hy : y.1.data.length ≤ n) : (pickP x y).1.data.length ≤ n := by
  unfold pickP
  split
  · simp [pt0]
  · split
    · exact hy
    · exact hx
theorem pick_old {x y : Pt × Int} {p q : Pt} (hp : x = (p, 0)) (hq : y = (q, 0)) (h : q.epoch ≤ p.epoch) : pickP x y = (p, 0) := by
  subst hp; subst hq
  unfold pickP
  rw [if_neg (by simp), if_neg (by simp; omega)]
theorem pick_new {x y : Pt × Int} {p q : Pt} (hp : x = (p, 0)) (hq : y = (q, 0)) (h : p.epoch < q.epoch) : pickP x y = (q, 0) := by
  subst hp; subst hq
  unfold pickP
  rw [if_neg (by simp), if_pos (by simp; omega)]
/-- three points one behind the other; the last one is lost in part -/
structure Three (e a b : Pt) (D1 D2 : Dk) : Prop where
  ea : okP e
  aa : okP a
  ba : okP b
  n1 : a.epoch = e.epoch + 1
  n2 : b.epoch = a.epoch + 1
  n0 : 0 ≤ e.epoch
  oe : okB e.data
  oa : okB a.data
  ob : okB b.data
  d1 : D1 = stD (zerosD 16) (regP e) (encP e).1
  d2 : D2 = stD D1 (regP a) (encP a).1
theorem Three.reg {e a b : Pt} {D1 D2 : Dk} (t : Three e a b D1 D2) : regP a ≠ regP b ∧ regP a < 2 ∧ regP b < 2 := by
  have := t.n1; have := t.n2; have := t.n0
  unfold regP
  omega
theorem Three.c1 {e a b : Pt} {D1 D2 : Dk} (t : Three e a b D1 D2) : cleanD D1 := by rw [t.d1]; exact stD_clean zeros_clean (regP_lt e) (encP_len t.ea)
theorem Three.c2 {e a b : Pt} {D1 D2 : Dk} (t : Three e a b D1 D2) : cleanD D2 := by rw [t.d2]; exact stD_clean t.c1 (regP_lt a) (encP_len t.aa)
theorem Three.o2 {e a b : Pt} {D1 D2 : Dk} (t : Three e a b D1 D2) : octD D2 := by
  rw [t.d2]
  refine oct_st t.c1 ?_ (regP_lt a) (okB_encP t.oa)
  rw [t.d1]; exact oct_st zeros_clean oct_zeros (regP_lt e) (okB_encP t.oe)
theorem Three.s1 {e a b : Pt} {D1 D2 : Dk} (t : Three e a b D1 D2) : storeD (zerosD 16) e = (D1, 0) := by rw [storeD_clean zeros_clean t.ea, t.d1]
theorem Three.s2 {e a b : Pt} {D1 D2 : Dk} (t : Three e a b D1 D2) : storeD D1 a = (D2, 0) := by rw [storeD_clean t.c1 t.aa, t.d2]
theorem Three.ra {e a b : Pt} {D1 D2 : Dk} (t : Three e a b D1 D2) (keep : List Bool) : decP (regD (crP D2 (regP b) (encP b).1 keep) (regP a)) = (a, 0) := by
  rw [crP_other t.c2 t.reg.1 (encP_len t.ba)]
  conv => lhs; rw [t.d2]
  rw [regD_st t.c1 (regP_lt a) (encP_len t.aa), decP_encP t.aa]
theorem Three.rb {e a b : Pt} {D1 D2 : Dk} (t : Three e a b D1 D2) {keep : List Bool} (h : ∀ n, n < 8 → keep[n]? = some true) : decP (regD (crP D2 (regP b) (encP b).1 keep) (regP b)) = (b, 0) := by
  rw [crP_all t.c2 _ _ h, regD_st t.c2 (regP_lt b) (encP_len t.ba), decP_encP t.ba]
theorem Three.load {e a b : Pt} {D1 D2 : Dk} (t : Three e a b D1 D2) (keep : List Bool) : ∃ L : Pt, loadD (crP D2 (regP b) (encP b).1 keep) = (L, 0) ∧ L.data.length ≤ 400 ∧ ((∀ n, n < 8 → keep[n]? = some true) → L = b) := by
  have hc := crP_clean t.c2 (k := regP b) (encP_len t.ba) keep
  have ha := t.ra keep
  obtain ⟨r1, r2, r3⟩ := t.reg
  have hn := t.n2
  rw [loadD_clean hc]
  refine ⟨(pickP (decP (regD (crP D2 (regP b) (encP b).1 keep) 0)) (decP (regD (crP D2 (regP b) (encP b).1 keep) 1))).1, ?_, pick_le (decP_le _) (decP_le _), fun hall => ?_⟩
  · have : (pickP (decP (regD (crP D2 (regP b) (encP b).1 keep) 0)) (decP (regD (crP D2 (regP b) (encP b).1 keep) 1))).2 = 0 := by
      refine pick_ok ?_
      rcases (show regP a = 0 ∨ regP a = 1 by omega) with h0 | h1
      · rw [h0] at ha; exact .inl (by rw [ha])
      · rw [h1] at ha; exact .inr (by rw [ha])
    rw [← this]
  · have hb := t.rb hall
    rcases (show regP a = 0 ∧ regP b = 1 ∨ regP a = 1 ∧ regP b = 0 by omega) with ⟨h0, h1⟩ | ⟨h1, h0⟩
    · rw [h0] at ha
      have hb' : decP (regD (crP D2 (regP b) (encP b).1 keep) 1) = (b, 0) := by rw [← hb, h1]
      rw [pick_new ha hb' (by omega)]
    · rw [h1] at ha
      have hb' : decP (regD (crP D2 (regP b) (encP b).1 keep) 0) = (b, 0) := by rw [← hb, h0]
      rw [pick_old hb' ha (by omega)]
end Go.Proofs.YtdenddhdeloceaaGreatDoor
namespace Go.Proofs.YtdenddhdeloceaaGreatDoor
open Go.RowKit
set_option maxRecDepth 100000
structure TS where
  d : Dk
  last : Pt
  old : Pt
  n : Nat
/-- a point with the next epoch -/
def setE (p : Pt) (n : Nat) : Pt := ⟨((n + 1 : Nat) : Int), p.seq, p.view, p.commit, p.data⟩
def tstep (s : TS) (p : Pt) : TS := if ptE (setE p s.n) = 0 then ⟨stD s.d (regP (setE p s.n)) (encP (setE p s.n)).1, setE p s.n, s.last, s.n + 1⟩ else s
def tz : TS := ⟨zerosD 16, pt0, pt0, 0⟩
def tr (l : List Pt) (i : Nat) : TS := (l.take i).foldl tstep tz
theorem tr_s {l : List Pt} {i : Nat} {p : Pt} (h : l[i]? = some p) : tr l (i + 1) = tstep (tr l i) p := by
  unfold tr
  rw [take_snoc h, List.foldl_append]; rfl
structure TI (s : TS) : Prop where
  c : cleanD s.d
  o : octD s.d
  n16 : s.d.sectors.length = 16
  z : s.n = 0 → s.d = zerosD 16
  l1 : 0 < s.n → okP s.last ∧ s.last.epoch = (s.n : Int) ∧ okB s.last.data ∧ regD s.d (regP s.last) = (encP s.last).1
  l2 : 1 < s.n → okP s.old ∧ s.old.epoch = ((s.n - 1 : Nat) : Int) ∧ okB s.old.data ∧ regD s.d (regP s.old) = (encP s.old).1
  l3 : s.n = 1 → regD s.d (1 - regP s.last) = regD (zerosD 16) (1 - regP s.last)
  le : s.last.data.length ≤ 400 ∧ s.old.data.length ≤ 400
theorem stD_len {d : Dk} (h : cleanD d) (k : Nat) (data : List Int) : (stD d k data).sectors.length = d.sectors.length := by rw [stD_sectors h, landT_len]
theorem TI_0 : TI tz := ⟨zeros_clean, oct_zeros, by simp [tz, zerosD], fun _ => rfl, fun h => absurd h (by decide), fun h => absurd h (by decide), fun h => absurd h (by decide), by simp [tz, pt0]⟩
theorem TI_s {s : TS} (h : TI s) {p : Pt} (hb : okB p.data) : TI (tstep s p) := by
  unfold tstep
  split
  · rename_i hE
    have hp := (okP_iff _).1 hE
    have hlen := encP_len hp
    have hr := regP_lt (setE p s.n)
    have hre : regP (setE p s.n) = (s.n + 1) % 2 := by unfold regP setE; simp only [Int.toNat_natCast]
    refine ⟨stD_clean h.c hr hlen, oct_st h.c h.o hr (okB_encP hb), (stD_len h.c _ _).trans h.n16, fun e => absurd e (by simp), fun _ => ⟨hp, rfl, hb, regD_st h.c hr hlen⟩, fun h1 => ?_, fun h1 => ?_, ?_, h.le.1⟩
    · obtain ⟨a, b, c, d⟩ := h.l1 (by simp only at h1; omega)
      have hrl : regP s.last = s.n % 2 := by unfold regP; rw [b]; simp only [Int.toNat_natCast]
      refine ⟨a, ?_, c, ?_⟩
      · simp only; rw [b]; simp
      · simp only
        rw [regD_other h.c hr (regP_lt _) (by rw [hre, hrl]; omega) hlen, d]
    · have hn : s.n = 0 := by simp only at h1; omega
      simp only
      rw [regD_other h.c hr (by omega) (by omega) hlen, h.z hn]
    · have := hp.short; show (setE p s.n).data.length ≤ 400; omega
  · exact h
theorem TI_tr (l : List Pt) (hb : ∀ p ∈ l, okB p.data) : ∀ i, TI (tr l i)
  | 0 => TI_0
  | i + 1 => by
    by_cases hi : i < l.length
    · rw [tr_s (List.getElem?_eq_getElem hi)]
      exact TI_s (TI_tr l hb i) (hb _ (List.getElem_mem hi))
    · have : tr l (i + 1) = tr l i := by unfold tr; rw [List.take_of_length_le (by omega), List.take_of_length_le (by omega)]
      rw [this]; exact TI_tr l hb i
theorem tr_n (l : List Pt) : ∀ i, (tr l i).n ≤ i
  | 0 => Nat.le_refl _
  | i + 1 => by
    have := tr_n l i
    by_cases hi : i < l.length
    · rw [tr_s (List.getElem?_eq_getElem hi)]
      unfold tstep
      split
      · simp only; omega
      · omega
    · have e : tr l (i + 1) = tr l i := by unfold tr; rw [List.take_of_length_le (by omega), List.take_of_length_le (by omega)]
      rw [e]; omega
theorem reg_zero {k : Nat} (h : k < 2) : decP (regD (zerosD 16) k) = (pt0, 8) := by
  have e : regD (zerosD 16) k = List.replicate 512 0 := by
    match k, h with
    | 0, _ => rfl
    | 1, _ => rfl
  rw [e]; rfl
theorem load_0 {s : TS} (h : TI s) (hn : s.n = 0) : loadD s.d = (pt0, 21) := by
  rw [h.z hn, loadD_clean zeros_clean, reg_zero (by decide), reg_zero (by decide)]
  rfl
theorem pick_l {x y : Pt × Int} {p : Pt} (hx : x = (p, 0)) (hy : y.2 ≠ 0) : pickP x y = (p, 0) := by
  subst hx; unfold pickP; rw [if_neg (by simp), if_neg (by simp [hy])]
theorem pick_r {x y : Pt × Int} {p : Pt} (hy : y = (p, 0)) (hx : x.2 ≠ 0) : pickP x y = (p, 0) := by
  subst hy; unfold pickP; rw [if_neg (by simp), if_pos (by simp [hx])]
theorem load_n {s : TS} (h : TI s) (hn : 0 < s.n) : loadD s.d = (s.last, 0) := by
  obtain ⟨a, b, c, d⟩ := h.l1 hn
  have hl := decP_encP a
  rw [← d] at hl
  have hrl : regP s.last = s.n % 2 := by unfold regP; rw [b]; simp only [Int.toNat_natCast]
  rw [loadD_clean h.c]
  by_cases h1 : s.n = 1
  · have h3 := h.l3 h1
    have hz := reg_zero (k := 1 - regP s.last) (by omega)
    rw [← h3] at hz
    have e1 : regP s.last = 1 := by rw [hrl, h1]
    rw [e1] at hl hz
    exact pick_r hl (by rw [hz]; simp)
  · obtain ⟨a', b', c', d'⟩ := h.l2 (by omega)
    have ho := decP_encP a'
    rw [← d'] at ho
    have hro : regP s.old = (s.n - 1) % 2 := by unfold regP; rw [b']; simp only [Int.toNat_natCast]
    rcases (show regP s.last = 0 ∧ regP s.old = 1 ∨ regP s.last = 1 ∧ regP s.old = 0 by omega) with ⟨e1, e2⟩ | ⟨e1, e2⟩
    · rw [e1] at hl; rw [e2] at ho
      exact pick_old hl ho (by omega)
    · rw [e1] at hl; rw [e2] at ho
      exact pick_new ho hl (by omega)
theorem flat_get64 {f : Nat → List Int} : ∀ {n q : Nat}, (∀ i, i < n → (f i).length = 64) → q < 64 * n → ((List.range n).flatMap f)[q]? = (f (q / 64))[q % 64]?
  | 0, q, _, h => by omega
  | n + 1, q, h, hq => by
    have hl : ∀ m, m ≤ n → ((List.range m).flatMap f).length = 64 * m := by
      intro m
      induction m with
      | zero => intro _; rfl
      | succ m ih =>
        intro hm
        rw [List.range_succ, List.flatMap_append, List.length_append, ih (by omega)]
        simp only [List.flatMap_cons, List.flatMap_nil, List.append_nil]
        rw [h m (by omega)]; omega
    rw [List.range_succ, List.flatMap_append]
    by_cases hlt : q < 64 * n
    · rw [List.getElem?_append_left (by rw [hl n (Nat.le_refl _)]; exact hlt), flat_get64 (fun i hi => h i (by omega)) hlt]
    · rw [List.getElem?_append_right (by rw [hl n (Nat.le_refl _)]; omega), hl n (Nat.le_refl _)]
      simp only [List.flatMap_cons, List.flatMap_nil, List.append_nil]
      rw [show q / 64 = n from by omega, show q - 64 * n = q % 64 from by omega]
def octS (d : Dk) (k i : Nat) (y : Int) : Dk := ⟨d.sectors.set (8 * k + i / 64) (((d.sectors[8 * k + i / 64]?).getD []).set (i % 64) y), []⟩
theorem octS_clean {d : Dk} (h : cleanD d) {k i : Nat} (y : Int) (hk : k < 2) (hi : i < 512) : cleanD (octS d k i y) := by
  have hf := h.few
  refine ⟨⟨?_, fun t ht => ?_, fun w hw => by cases hw⟩, by simp only [octS, List.length_set]; exact hf, rfl⟩
  · have := h.ok.few; simp only [octS, List.length_set, List.length_nil]; omega
  · rcases List.mem_or_eq_of_mem_set ht with h1 | h1
    · exact h.ok.secs t h1
    · rw [h1, List.length_set, List.getElem?_eq_getElem (by omega)]
      exact h.ok.secs _ (List.getElem_mem _)
theorem octS_oct {d : Dk} (h : cleanD d) (ho : octD d) {k i : Nat} {y : Int} (hk : k < 2) (hi : i < 512) (hy : 0 ≤ y ∧ y < 256) : octD (octS d k i y) := by
  have hf := h.few
  refine ⟨fun t ht => ?_, fun w hw => by cases hw⟩
  rcases List.mem_or_eq_of_mem_set ht with h1 | h1
  · exact ho.secs t h1
  · rw [h1, List.getElem?_eq_getElem (by omega)]
    intro x hx
    rcases List.mem_or_eq_of_mem_set hx with h2 | h2
    · exact ho.secs _ (List.getElem_mem _) x h2
    · rw [h2]; exact hy
theorem sec_len {d : Dk} (h : cleanD d) {j : Nat} (hj : j < 16) : (secAt d j).length = 64 := secAt_len h.ok (by have := h.few; omega)
theorem regD_get {d : Dk} (h : cleanD d) {k i : Nat} (hk : k < 2) (hi : i < 512) : (regD d k)[i]? = ((d.sectors[8 * k + i / 64]?).getD [])[i % 64]? := by
  unfold regD getD
  rw [flat_get64 (fun j hj => sec_len h (by omega)) (by omega), secAt_nil h.cache]
theorem regD_len {d : Dk} (h : cleanD d) {k : Nat} (hk : k < 2) : (regD d k).length = 512 := getD_len h.ok _ _ (by have := h.few; omega)
theorem regD_oct {d : Dk} (h : cleanD d) {k i : Nat} (y : Int) (hk : k < 2) (hi : i < 512) : regD (octS d k i y) k = (regD d k).set i y := by
  have hc := octS_clean h y hk hi
  have hf := h.few
  apply List.ext_getElem?
  intro q
  by_cases hq : q < 512
  · rw [regD_get hc hk hq, List.getElem?_set, regD_len h hk, regD_get h hk hq]
    simp only [octS]
    rw [List.getElem?_set]
    have hl : ((d.sectors[8 * k + i / 64]?).getD []).length = 64 := by
      rw [List.getElem?_eq_getElem (by omega)]; exact h.ok.secs _ (List.getElem_mem _)
    by_cases e : 8 * k + i / 64 = 8 * k + q / 64
    · rw [if_pos e, if_pos (by omega), Option.getD_some, List.getElem?_set, hl]
      by_cases e2 : i = q
      · subst e2
        rw [if_pos rfl, if_pos (by omega), if_pos rfl, if_pos hi]
      · rw [if_neg (by omega), if_neg e2, e]
    · rw [if_neg e, if_neg (by rintro rfl; exact e rfl)]
  · rw [List.getElem?_eq_none (by rw [regD_len hc hk]; omega), List.getElem?_eq_none (by rw [List.length_set, regD_len h hk]; omega)]
theorem regD_oct' {d : Dk} (h : cleanD d) {k j i : Nat} (y : Int) (hk : k < 2) (hj : j < 2) (hne : j ≠ k) (hi : i < 512) : regD (octS d k i y) j = regD d j := by
  have hc := octS_clean h y hk hi
  have hf := h.few
  apply List.ext_getElem?
  intro q
  by_cases hq : q < 512
  · rw [regD_get hc hj hq, regD_get h hj hq]
    simp only [octS]
    rw [List.getElem?_set, if_neg (by omega)]
  · rw [List.getElem?_eq_none (by rw [regD_len hc hj]; omega), List.getElem?_eq_none (by rw [regD_len h hj]; omega)]
theorem load_oct {s : TS} (h : TI s) (hn : 1 < s.n) {i : Nat} {x y : Int} (h2 : 2 ≤ i) (hi : i < 512) (hx : (encP s.last).1[i]? = some x) (hy : 0 ≤ y ∧ y < 256) (hne : y ≠ x) : loadD (octS s.d (regP s.last) i y) = (s.old, 0) := by
  obtain ⟨a, b, c, d⟩ := h.l1 (by omega)
  obtain ⟨a', b', c', d'⟩ := h.l2 hn
  have hrl : regP s.last = s.n % 2 := by unfold regP; rw [b]; simp only [Int.toNat_natCast]
  have hro : regP s.old = (s.n - 1) % 2 := by unfold regP; rw [b']; simp only [Int.toNat_natCast]
  have hr := regP_lt s.last
  have hb := (decP_set a c h2 hx hy hne).2
  have ho := decP_encP a'
  rw [← d, ← regD_oct h.c y hr hi] at hb
  rw [← d', ← regD_oct' h.c (i := i) y hr (regP_lt s.old) (by omega) hi] at ho
  rw [loadD_clean (octS_clean h.c y hr hi)]
  rcases (show regP s.last = 0 ∧ regP s.old = 1 ∨ regP s.last = 1 ∧ regP s.old = 0 by omega) with ⟨e1, e2⟩ | ⟨e1, e2⟩
  · rw [e1] at hb ho ⊢; rw [e2] at ho
    exact pick_r ho hb
  · rw [e1] at hb ho ⊢; rw [e2] at ho
    exact pick_l ho hb
end Go.Proofs.YtdenddhdeloceaaGreatDoor
namespace Go.Proofs.YtdenddhdeloceaaGreatDoor
open Go.RowKit
set_option maxRecDepth 100000
/-- points in a slice -/
def ePts (fr : Bool) (l : List Pt) : List AV := l.flatMap fun p => [.v (.int .i64 p.epoch), .v (.int .i64 p.seq), .v (.int .i64 p.view), .v (.int .i64 p.commit), fB fr p.data]
def fPts (fr : Bool) (l : List Pt) : AV := .fs fr (ePts fr l) l.length
theorem rdt_pts : Rd Tryz.prog 60 (fun fr l => [fPts fr l]) (fun l => l.length * 56 ≤ reachB ∧ ∀ x ∈ l, okPt x) :=
  rd_slice (B := 56) Tryz.underlying60 (by kernel_rfl) (by kernel_rfl) (by rw [show Tryz.prog.cellsOf 24 = 5 from by kernel_rfl]; decide) rdt_pt
theorem open_pts {H : Type} {enc : TypeId × Value → H} {W : World} {base : Nat} {v : Value} {d : DataW H} {ps : List MemPlace} (hv : Value.okWide Tryz.prog W .any base 60 v) (h : DataW.Trod enc Tryz.prog W 0 (fun _ => true) true 60 v d ps)
    (hw : (d.weights Tryz.prog 60).all (· ≤ reachBytes) = true) : ∃ s : List Pt, (s.length * 56 ≤ reachB ∧ ∀ x ∈ s, okPt x) ∧ VR (cx0 W) (fPts false s) v := by
  have hc : v.cells.toList = [v] := by
    cases v <;> first | rfl | (exfalso; simp [Value.okWide, Cell.okWide, Cell.ok, Tryz.underlying60] at hv)
  obtain ⟨fuel, h⟩ := h
  obtain ⟨s, h1, h2⟩ := rdt_pts.rd h hw
  refine ⟨s, h1, ?_⟩
  rw [hc, VRl] at h2
  obtain ⟨u, us, e, _, h3, _⟩ := h2
  cases e
  exact h3
end Go.Proofs.YtdenddhdeloceaaGreatDoor
namespace Go.Proofs.YtdenddhdeloceaaGreatDoor
open Go.RowKit
/-- the octet's place -/
theorem place (n : Int) : ∃ i : Nat, IntKind.i64.wrap (2 + (IntKind.i64.wrap (n.tmod 510 + 510)).tmod 510) = (i : Int) ∧ 2 ≤ i ∧ i < 512 := by
  have h1 : -510 < n.tmod 510 := by have := Int.lt_tmod_of_pos n (show (0 : Int) < 510 by decide); omega
  have h2 : n.tmod 510 < 510 := Int.tmod_lt_of_pos n (by decide)
  rw [wrap64 (x := n.tmod 510 + 510) (by omega)]
  obtain ⟨m, hm⟩ := Int.eq_ofNat_of_zero_le (show 0 ≤ n.tmod 510 + 510 by omega)
  rw [hm]
  have e : (m : Int).tmod 510 = ((m % 510 : Nat) : Int) := rfl
  have h3 : m % 510 < 510 := Nat.mod_lt _ (by decide)
  rw [e, wrap64 (by omega)]
  exact ⟨2 + m % 510, by omega, by omega, by omega⟩
/-- the octet changed -/
def xr (x y : Int) : Int := IntKind.u8.wrap ((BitVec.ofInt IntKind.u8.bits x ^^^ BitVec.ofInt IntKind.u8.bits y).toNat : Int)
theorem xr_ok {x y : Int} (hx : 0 ≤ x ∧ x < 256) (hy : 0 ≤ y ∧ y < 256) : (0 ≤ xr x y ∧ xr x y < 256) ∧ (y ≠ 0 → xr x y ≠ x) := by
  obtain ⟨a, rfl⟩ := Int.eq_ofNat_of_zero_le hx.1
  obtain ⟨b, rfl⟩ := Int.eq_ofNat_of_zero_le hy.1
  have ha : a < 2 ^ 8 := by omega
  have hb : b < 2 ^ 8 := by omega
  have hlt : a ^^^ b < 2 ^ 8 := Nat.xor_lt_two_pow ha hb
  have e : xr (a : Int) (b : Int) = ((a ^^^ b : Nat) : Int) := by
    unfold xr
    have h1 : (BitVec.ofInt IntKind.u8.bits (a : Int) ^^^ BitVec.ofInt IntKind.u8.bits (b : Int)).toNat = a ^^^ b := by
      show (BitVec.ofInt 8 (a : Int) ^^^ BitVec.ofInt 8 (b : Int)).toNat = _
      rw [BitVec.toNat_xor, BitVec.toNat_ofInt, BitVec.toNat_ofInt, show ((a : Int) % ((2 ^ 8 : Nat) : Int)).toNat = a from by omega, show ((b : Int) % ((2 ^ 8 : Nat) : Int)).toNat = b from by omega]
    rw [h1]
    rw [u8_wrap]; omega
  rw [e]
  refine ⟨by omega, fun h0 h => h0 ?_⟩
  have h2 : a ^^^ b = a := by omega
  have h3 : a ^^^ (a ^^^ b) = 0 := by rw [h2, Nat.xor_self]
  rw [← Nat.xor_assoc, Nat.xor_self, Nat.zero_xor] at h3
  omega
end Go.Proofs.YtdenddhdeloceaaGreatDoor
namespace Go.Proofs.YtdenddhdeloceaaGreatDoor
set_option maxRecDepth 100000
def ac_5 : AC :=
(.seq (.reg false [⟨some 6, .mv (.const (.bool false)), none, [], []⟩] [0, 1, 2])
(.seq (.seq (.reg false [⟨some 21, .call 19 [], none, [], []⟩,
    ⟨some 22, .un .not (.tmp 21), none, [21], []⟩] [0, 1, 2, 22])
(.cond (.tmp 22)
(.seq (.reg false [⟨some 6, .mv (.const (.bool false)), none, [], []⟩] [6])
.ret)
.skip))
(.seq (.reg false [⟨some 24, .call 26 [(.const (.int .i64 (16)))], none, [], []⟩,
    ⟨some 23, .mv (.tmp 24), none, [24], []⟩,
    ⟨some 25, .ext 0 (.tmp 23), none, [23], []⟩,
    ⟨some 26, .ext 1 (.tmp 23), none, [23], []⟩,
    ⟨some 7, .new 50 [(.slice none 0 0), (.slice none 0 0)], none, [], []⟩,
    ⟨none, .store 2 (.tmp 7) (.tmp 25), none, [7, 25], []⟩,
    ⟨some 8, .mv (.tmp 26), none, [26], []⟩] [0, 1, 2, 7, 8])
(.seq (.seq (.reg false [⟨some 27, .mv (.tmp 8), none, [8], []⟩,
    ⟨some 28, .call 15 [(.tmp 27)], none, [27], []⟩,
    ⟨some 29, .bin .neq (.tmp 28) (.const (.int .i64 (0))), none, [28], []⟩] [0, 1, 2, 7, 29])
(.cond (.tmp 29)
(.seq (.reg false [⟨some 6, .mv (.const (.bool false)), none, [], []⟩] [6])
.ret)
.skip))
(.seq (.reg false [⟨some 9, .new 24 [(.int .i64 (0)), (.int .i64 (0)), (.int .i64 (0)), (.int .i64 (0)), (.slice none 0 0)], none, [], []⟩,
    ⟨some 10, .new 24 [(.int .i64 (0)), (.int .i64 (0)), (.int .i64 (0)), (.int .i64 (0)), (.slice none 0 0)], none, [], []⟩] [0, 1, 2, 7, 9, 10])
(.seq (.reg false [⟨some 11, .mv (.const (.int .i64 (0))), none, [], []⟩] [0, 1, 2, 7, 9, 10, 11])
(.seq (.seq (.reg false [⟨some 12, .mv (.const (.int .i64 (0))), none, [], []⟩] [0, 1, 2, 7, 9, 10, 11, 12])
(.block 0 (.loop (.seq (.seq (.reg false [⟨some 30, .mv (.tmp 12), none, [12], []⟩,
    ⟨some 31, .mv (.tmp 0), none, [0], []⟩,
    ⟨some 32, .len false (.tmp 31), none, [31], []⟩,
    ⟨some 33, .bin .lss (.tmp 30) (.tmp 32), none, [30, 32], []⟩,
    ⟨some 34, .mv (.tmp 33), none, [33], []⟩,
    ⟨some 35, .mv (.tmp 12), some (34, true), [12, 34], []⟩,
    ⟨some 36, .bin .lss (.tmp 35) (.const (.int .i64 (20))), some (34, true), [35, 34], []⟩,
    ⟨some 37, .pick (.tmp 34) (.tmp 36) (.const (.bool false)), none, [34, 36], []⟩] [0, 1, 2, 7, 9, 10, 11, 12, 37])
(.cond (.tmp 37)
.skip
(.exit 0)))
(.seq (.block 1 (.seq (.reg false [⟨some 40, .mv (.tmp 0), none, [0], []⟩,
    ⟨some 41, .mv (.tmp 12), none, [12], []⟩,
    ⟨some 42, .idx 5 (.tmp 40) (.tmp 41), none, [40, 41], []⟩,
    ⟨some 43, .load true 5 (.tmp 42), none, [42], []⟩,
    ⟨some 13, .new 24 [(.int .i64 (0)), (.int .i64 (0)), (.int .i64 (0)), (.int .i64 (0)), (.slice none 0 0)], none, [], []⟩,
    ⟨none, .store 5 (.tmp 13) (.tmp 43), none, [13, 43], []⟩] [0, 1, 2, 7, 9, 10, 11, 12, 13])
(.seq (.reg false [⟨some 44, .mv (.tmp 11), none, [11], []⟩,
    ⟨some 45, .bin .add (.tmp 44) (.const (.int .i64 (1))), none, [44], []⟩,
    ⟨some 46, .foff 0 (.tmp 13), none, [13], []⟩,
    ⟨none, .store 1 (.tmp 46) (.tmp 45), none, [46, 45], []⟩] [0, 1, 2, 7, 9, 10, 11, 12, 13])
(.seq (.reg true [⟨some 48, .load true 2 (.tmp 7), none, [7], []⟩,
    ⟨some 49, .load true 5 (.tmp 13), none, [13], []⟩,
    ⟨some 50, .call 8 [(.tmp 49)], none, [49], [1]⟩,
    ⟨some 51, .call 21 [(.tmp 48), (.tmp 50)], none, [48, 50], [0, 2, 1]⟩,
    ⟨some 47, .mv (.tmp 51), none, [51], [3, 0, 2, 1]⟩,
    ⟨some 52, .ext 0 (.tmp 47), none, [47], [4, 3, 0, 2, 1]⟩,
    ⟨some 53, .ext 1 (.tmp 47), none, [47], [4, 3, 0, 2, 1]⟩,
    ⟨some 14, .new 50 [(.slice none 0 0), (.slice none 0 0)], none, [], []⟩,
    ⟨none, .store 2 (.tmp 14) (.tmp 52), none, [14, 52], [7, 5, 3, 0, 1, 2, 4]⟩,
    ⟨some 15, .mv (.tmp 53), none, [53], [6, 8, 0, 1, 2, 3, 4, 5, 7]⟩] [0, 1, 2, 7, 9, 10, 11, 12, 13, 14, 15])
(.seq (.seq (.reg false [⟨some 54, .mv (.tmp 15), none, [15], []⟩,
    ⟨some 55, .call 15 [(.tmp 54)], none, [54], []⟩,
    ⟨some 56, .bin .neq (.tmp 55) (.const (.int .i64 (0))), none, [55], []⟩] [0, 1, 2, 7, 9, 10, 11, 12, 13, 14, 56])
(.cond (.tmp 56)
(.seq (.seq (.reg false [⟨some 57, .load true 5 (.tmp 13), none, [13], []⟩,
    ⟨some 58, .call 18 [(.tmp 57)], none, [57], []⟩,
    ⟨some 59, .bin .eql (.tmp 58) (.const (.int .i64 (0))), none, [58], []⟩] [0, 1, 2, 7, 9, 10, 11, 12, 59])
(.cond (.tmp 59)
(.seq (.reg false [⟨some 6, .mv (.const (.bool false)), none, [], []⟩] [6])
.ret)
.skip))
(.exit 1))
.skip))
(.seq (.reg true [⟨some 60, .load true 2 (.tmp 14), none, [14], []⟩,
    ⟨some 61, .load true 5 (.tmp 9), none, [9], []⟩,
    ⟨some 62, .load true 5 (.tmp 13), none, [13], []⟩,
    ⟨none, .store 2 (.tmp 7) (.tmp 60), none, [7, 60], [0]⟩,
    ⟨none, .store 5 (.tmp 10) (.tmp 61), none, [10, 61], [1, 3, 0]⟩,
    ⟨none, .store 5 (.tmp 9) (.tmp 62), none, [9, 62], [2, 4, 0, 1, 3]⟩] [0, 1, 2, 7, 9, 10, 11, 12])
(.reg false [⟨some 63, .mv (.tmp 11), none, [11], []⟩,
    ⟨some 64, .bin .add (.tmp 63) (.const (.int .i64 (1))), none, [63], []⟩,
    ⟨some 11, .mv (.tmp 64), none, [64], []⟩] [0, 1, 2, 7, 9, 10, 11, 12])))))))
(.reg false [⟨some 38, .mv (.tmp 12), none, [12], []⟩,
    ⟨some 39, .bin .add (.tmp 38) (.const (.int .i64 (1))), none, [38], []⟩,
    ⟨some 12, .mv (.tmp 39), none, [39], []⟩] [0, 1, 2, 7, 9, 10, 11, 12]))))))
(.seq (.reg false [⟨some 66, .load true 2 (.tmp 7), none, [7], []⟩,
    ⟨some 67, .call 23 [(.tmp 66)], none, [66], []⟩,
    ⟨some 65, .mv (.tmp 67), none, [67], []⟩,
    ⟨some 68, .ext 0 (.tmp 65), none, [65], []⟩,
    ⟨some 69, .ext 1 (.tmp 65), none, [65], []⟩,
    ⟨some 16, .new 25 [(.int .i64 (0)), (.int .i64 (0)), (.int .i64 (0)), (.int .i64 (0)), (.slice none 0 0)], none, [], []⟩,
    ⟨none, .store 5 (.tmp 16) (.tmp 68), none, [16, 68], []⟩,
    ⟨some 17, .mv (.tmp 69), none, [69], []⟩] [1, 2, 7, 9, 10, 11, 16, 17])
(.seq (.seq (.reg false [⟨some 70, .mv (.tmp 11), none, [11], []⟩,
    ⟨some 71, .bin .eql (.tmp 70) (.const (.int .i64 (0))), none, [70], []⟩] [1, 2, 7, 9, 10, 11, 16, 17, 71])
(.cond (.tmp 71)
(.seq (.reg false [⟨some 72, .mv (.tmp 17), none, [17], []⟩,
    ⟨some 73, .call 15 [(.tmp 72)], none, [72], []⟩,
    ⟨some 74, .bin .eql (.tmp 73) (.const (.int .i64 (21))), none, [73], []⟩,
    ⟨some 75, .mv (.tmp 74), none, [74], []⟩,
    ⟨some 76, .foff 0 (.tmp 16), some (75, true), [16, 75], []⟩,
    ⟨some 77, .load false 1 (.tmp 76), some (75, true), [76, 75], []⟩,
    ⟨some 78, .bin .eql (.tmp 77) (.const (.int .i64 (0))), some (75, true), [77, 75], []⟩,
    ⟨some 79, .pick (.tmp 75) (.tmp 78) (.const (.bool false)), none, [75, 78], []⟩,
    ⟨some 6, .mv (.tmp 79), none, [79], []⟩] [6])
.ret)
.skip))
(.seq (.seq (.reg false [⟨some 80, .mv (.tmp 17), none, [17], []⟩,
    ⟨some 81, .call 15 [(.tmp 80)], none, [80], []⟩,
    ⟨some 82, .bin .neq (.tmp 81) (.const (.int .i64 (0))), none, [81], []⟩,
    ⟨some 83, .mv (.tmp 82), none, [82], []⟩,
    ⟨some 84, .load true 5 (.tmp 16), some (83, false), [16, 83], []⟩,
    ⟨some 85, .load true 5 (.tmp 9), some (83, false), [9, 83], []⟩,
    ⟨some 86, .call 16 [(.tmp 84), (.tmp 85)], some (83, false), [84, 85, 83], []⟩,
    ⟨some 87, .un .not (.tmp 86), some (83, false), [86, 83], []⟩,
    ⟨some 88, .pick (.tmp 83) (.const (.bool true)) (.tmp 87), none, [83, 87], []⟩] [1, 2, 7, 9, 10, 11, 88])
(.cond (.tmp 88)
(.seq (.reg false [⟨some 6, .mv (.const (.bool false)), none, [], []⟩] [6])
.ret)
.skip))
(.seq (.seq (.reg false [⟨some 89, .mv (.tmp 11), none, [11], []⟩,
    ⟨some 90, .bin .eql (.tmp 89) (.const (.int .i64 (1))), none, [89], []⟩,
    ⟨some 91, .mv (.tmp 90), none, [90], []⟩,
    ⟨some 92, .mv (.tmp 2), some (91, false), [2, 91], []⟩,
    ⟨some 93, .bin .eql (.tmp 92) (.const (.int .u8 (0))), some (91, false), [92, 91], []⟩,
    ⟨some 94, .pick (.tmp 91) (.const (.bool true)) (.tmp 93), none, [91, 93], []⟩] [1, 2, 7, 9, 10, 94])
(.cond (.tmp 94)
(.seq (.reg false [⟨some 6, .mv (.const (.bool true)), none, [], []⟩] [6])
.ret)
.skip))
(.seq (.reg false [⟨some 95, .mv (.tmp 1), none, [1], []⟩,
    ⟨some 96, .bin .rem (.tmp 95) (.const (.int .i64 (510))), none, [95], []⟩,
    ⟨some 97, .bin .add (.tmp 96) (.const (.int .i64 (510))), none, [96], []⟩,
    ⟨some 98, .bin .rem (.tmp 97) (.const (.int .i64 (510))), none, [97], []⟩,
    ⟨some 99, .bin .add (.const (.int .i64 (2))) (.tmp 98), none, [98], []⟩,
    ⟨some 18, .mv (.tmp 99), none, [99], []⟩] [2, 7, 9, 10, 18])
(.seq (.seq (.reg false [⟨some 100, .foff 0 (.tmp 7), none, [7], []⟩,
    ⟨some 101, .load false 1 (.tmp 100), none, [100], []⟩,
    ⟨some 102, .len false (.tmp 101), none, [101], []⟩,
    ⟨some 103, .bin .neq (.tmp 102) (.const (.int .i64 (16))), none, [102], []⟩,
    ⟨some 104, .mv (.tmp 103), none, [103], []⟩,
    ⟨some 105, .foff 0 (.tmp 7), some (104, false), [7, 104], []⟩,
    ⟨some 106, .load false 1 (.tmp 105), some (104, false), [105, 104], []⟩,
    ⟨some 107, .foff 0 (.tmp 9), some (104, false), [9, 104], []⟩,
    ⟨some 108, .load false 1 (.tmp 107), some (104, false), [107, 104], []⟩,
    ⟨some 109, .bin .rem (.tmp 108) (.const (.int .i64 (2))), some (104, false), [108, 104], []⟩,
    ⟨some 110, .bin .mul (.const (.int .i64 (8))) (.tmp 109), some (104, false), [109, 104], []⟩,
    ⟨some 111, .mv (.tmp 18), some (104, false), [18, 104], []⟩,
    ⟨some 112, .bin .quo (.tmp 111) (.const (.int .i64 (64))), some (104, false), [111, 104], []⟩,
    ⟨some 113, .bin .add (.tmp 110) (.tmp 112), some (104, false), [110, 112, 104], []⟩,
    ⟨some 114, .idx 1 (.tmp 106) (.tmp 113), some (104, false), [106, 113, 104], []⟩,
    ⟨some 115, .load false 1 (.tmp 114), some (104, false), [114, 104], []⟩,
    ⟨some 116, .len false (.tmp 115), some (104, false), [115, 104], []⟩,
    ⟨some 117, .bin .neq (.tmp 116) (.const (.int .i64 (64))), some (104, false), [116, 104], []⟩,
    ⟨some 118, .pick (.tmp 104) (.const (.bool true)) (.tmp 117), none, [104, 117], []⟩] [2, 7, 9, 10, 18, 118])
(.cond (.tmp 118)
(.seq (.reg false [⟨some 6, .mv (.const (.bool false)), none, [], []⟩] [6])
.ret)
.skip))
(.seq (.reg false [⟨some 119, .foff 0 (.tmp 7), none, [7], []⟩,
    ⟨some 120, .load false 1 (.tmp 119), none, [119], []⟩,
    ⟨some 121, .foff 0 (.tmp 9), none, [9], []⟩,
    ⟨some 122, .load false 1 (.tmp 121), none, [121], []⟩,
    ⟨some 123, .bin .rem (.tmp 122) (.const (.int .i64 (2))), none, [122], []⟩,
    ⟨some 124, .bin .mul (.const (.int .i64 (8))) (.tmp 123), none, [123], []⟩,
    ⟨some 125, .mv (.tmp 18), none, [18], []⟩,
    ⟨some 126, .bin .quo (.tmp 125) (.const (.int .i64 (64))), none, [125], []⟩,
    ⟨some 127, .bin .add (.tmp 124) (.tmp 126), none, [124, 126], []⟩,
    ⟨some 128, .idx 1 (.tmp 120) (.tmp 127), none, [120, 127], []⟩,
    ⟨some 129, .load false 1 (.tmp 128), none, [128], []⟩,
    ⟨some 130, .mv (.tmp 18), none, [18], []⟩,
    ⟨some 131, .bin .rem (.tmp 130) (.const (.int .i64 (64))), none, [130], []⟩,
    ⟨some 132, .idx 1 (.tmp 129) (.tmp 131), none, [129, 131], []⟩,
    ⟨some 133, .load false 1 (.tmp 132), none, [132], []⟩,
    ⟨some 134, .mv (.tmp 2), none, [2], []⟩,
    ⟨some 135, .bin .xor (.tmp 133) (.tmp 134), none, [133, 134], []⟩,
    ⟨some 136, .idx 1 (.tmp 129) (.tmp 131), none, [129, 131], []⟩,
    ⟨none, .store 1 (.tmp 136) (.tmp 135), none, [136, 135], []⟩] [7, 10])
(.seq (.reg false [⟨some 138, .load true 2 (.tmp 7), none, [7], []⟩,
    ⟨some 139, .call 23 [(.tmp 138)], none, [138], []⟩,
    ⟨some 137, .mv (.tmp 139), none, [139], []⟩,
    ⟨some 140, .ext 0 (.tmp 137), none, [137], []⟩,
    ⟨some 141, .ext 1 (.tmp 137), none, [137], []⟩,
    ⟨some 19, .new 25 [(.int .i64 (0)), (.int .i64 (0)), (.int .i64 (0)), (.int .i64 (0)), (.slice none 0 0)], none, [], []⟩,
    ⟨none, .store 5 (.tmp 19) (.tmp 140), none, [19, 140], []⟩,
    ⟨some 20, .mv (.tmp 141), none, [141], []⟩] [10, 19, 20])
(.seq (.reg false [⟨some 142, .mv (.tmp 20), none, [20], []⟩,
    ⟨some 143, .call 15 [(.tmp 142)], none, [142], []⟩,
    ⟨some 144, .bin .eql (.tmp 143) (.const (.int .i64 (0))), none, [143], []⟩,
    ⟨some 145, .mv (.tmp 144), none, [144], []⟩,
    ⟨some 146, .load true 5 (.tmp 19), some (145, true), [19, 145], []⟩,
    ⟨some 147, .load true 5 (.tmp 10), some (145, true), [10, 145], []⟩,
    ⟨some 148, .call 16 [(.tmp 146), (.tmp 147)], some (145, true), [146, 147, 145], []⟩,
    ⟨some 149, .pick (.tmp 145) (.tmp 148) (.const (.bool false)), none, [145, 148], []⟩,
    ⟨some 6, .mv (.tmp 149), none, [149], []⟩] [6])
.ret))))))))))))))))
theorem ok_5 : FnOk Tryz.prog 5 150 ac_5 [.tmp 6] := ⟨Tryz.f5, Tryz.func5, by kernel_rfl, by kernel_rfl, by kernel_rfl, by kernel_rfl, by kernel_rfl⟩
end Go.Proofs.YtdenddhdeloceaaGreatDoor
namespace Go.Proofs.YtdenddhdeloceaaGreatDoor
open Go.RowKit
set_option maxRecDepth 100000
def ePt1 (fr : Bool) (p : Pt) : List AV := [.v (.int .i64 p.epoch), .v (.int .i64 p.seq), .v (.int .i64 p.view), .v (.int .i64 p.commit), fB fr p.data]
theorem get_Pts {fr : Bool} {l : List Pt} {i : Nat} {p : Pt} (h : l[i]? = some p) : (ePts fr l)[i * 5]? = some (.v (.int .i64 p.epoch)) ∧ (ePts fr l)[i * 5 + 1]? = some (.v (.int .i64 p.seq)) ∧ (ePts fr l)[i * 5 + 2]? = some (.v (.int .i64 p.view)) ∧ (ePts fr l)[i * 5 + 3]? = some (.v (.int .i64 p.commit)) ∧ (ePts fr l)[i * 5 + 4]? = some (.fs fr (eB p.data) p.data.length) :=
  ⟨flat_get (e := ePt1 fr) (k := 5) (fun _ => rfl) h 0 (by omega), flat_get (e := ePt1 fr) (k := 5) (fun _ => rfl) h 1 (by omega), flat_get (e := ePt1 fr) (k := 5) (fun _ => rfl) h 2 (by omega), flat_get (e := ePt1 fr) (k := 5) (fun _ => rfl) h 3 (by omega), flat_get (e := ePt1 fr) (k := 5) (fun _ => rfl) h 4 (by omega)⟩
theorem al_Pts {p : Nat → Prop} (fr : Bool) (l : List Pt) : AlL p (ePts fr l) := by
  rw [AlL_iff]
  intro a ha
  obtain ⟨q, _, hq⟩ := List.mem_flatMap.1 ha
  simp only [List.mem_cons, List.not_mem_nil, or_false] at hq
  rcases hq with rfl | rfl | rfl | rfl | rfl <;> first | trivial | exact al_fB _
theorem ren_Pts {ρ : Nat → Nat} (fr : Bool) (l : List Pt) : renL ρ (ePts fr l) = ePts fr l := renL_id (p := fun _ => False) (fun _ h => h.elim) (al_Pts fr l)
/-- a point's row -/
def ptR (fr b : Bool) (p : Pt) : List AV := [.v (.int .i64 p.epoch), .v (.int .i64 p.seq), .v (.int .i64 p.view), .v (.int .i64 p.commit), if b then fB fr p.data else .v (.slice none 0 0)]
theorem al_ptR {p : Nat → Prop} (fr b : Bool) (q : Pt) : AlL p (ptR fr b q) := by cases b <;> simp [ptR, AlL, Al, fB, al_B]
theorem ren_ptR {ρ : Nat → Nat} (fr b : Bool) (q : Pt) : renL ρ (ptR fr b q) = ptR fr b q := renL_id (p := fun _ => False) (fun _ h => h.elim) (al_ptR fr b q)
abbrev S0 (fl : Bool) (l : List Pt) (n bits : Int) (s : TS) (i : Nat) : ASt := ⟨envOf [(0, fPts fl l), (1, .v (.int .i64 n)), (2, .v (.int .u8 bits)), (7, .op 0 0), (9, .op 1 0), (10, .op 2 0), (11, .v (.int .i64 s.n)), (12, .v (.int .i64 i))],
  heapOf [(0, .row true 50 [fL true s.d.sectors, fWrs true s.d.cache]), (1, .row true 24 (ptR fl (decide (0 < s.n)) s.last)), (2, .row true 24 (ptR fl (decide (1 < s.n)) s.old))], 3⟩
abbrev fixT (fl : Bool) (s : TS) : List (Nat × AObj) := [(0, .row true 50 [.os 2100003 0 16 1, .v (.slice none 0 0)]), (1, .row true 24 (ptR fl (decide (0 < s.n)) s.last)), (2, .row true 24 (ptR fl (decide (1 < s.n)) s.old)), (2100003, .row true 22 (osR 2100004 16 (gS s.d)))]
abbrev S1 (fl : Bool) (l : List Pt) (n bits : Int) (s : TS) (i : Nat) : ASt := ⟨envOf [(0, fPts fl l), (1, .v (.int .i64 n)), (2, .v (.int .u8 bits)), (7, .op 0 0), (9, .op 1 0), (10, .op 2 0), (11, .v (.int .i64 s.n)), (12, .v (.int .i64 i))],
  heapOf (fixT fl s ++ famL 2100004 16 (fun j => .row true 5 (gS s.d j))), 3000000⟩
/-- the last of the stores has been -/
def done (l : List Pt) (i : Nat) : Prop := 0 < (tr l i).n ∧ ∀ j, i ≤ j → j < l.length → j < 20 → tr l (j + 1) = tr l j
open Classical in
noncomputable def Sx (fl : Bool) (l : List Pt) (n bits : Int) (i : Nat) : ASt := if done l i then S1 fl l n bits (tr l i) i else S0 fl l n bits (tr l i) i
theorem Sx_1 {fl : Bool} {l : List Pt} {n bits : Int} {i : Nat} (h : done l i) : Sx fl l n bits i = S1 fl l n bits (tr l i) i := by unfold Sx; rw [if_pos h]
theorem Sx_0 {fl : Bool} {l : List Pt} {n bits : Int} {i : Nat} (h : ¬ done l i) : Sx fl l n bits i = S0 fl l n bits (tr l i) i := by unfold Sx; rw [if_neg h]
/-- what is known when a disk is held -/
theorem fam_turn {N : Nat} {l : List (Nat × AV)} {env : Nat → AV} {σ : Heap} {nx : Nat} {a0 a1 a2 : Nat} (fl : Bool) (L : List Pt) (n bits : Int) (s : TS) (i : Nat)
    (hne : a0 ≠ a1 ∧ a0 ≠ a2 ∧ a1 ≠ a2) (ha : ∀ a ∈ [a0, a1, a2], a < 2100003 ∨ 2100020 ≤ a)
    (hl : l = [(0, fPts fl L), (1, .v (.int .i64 n)), (2, .v (.int .u8 bits)), (7, .op 0 0), (9, .op 1 0), (10, .op 2 0), (11, .v (.int .i64 s.n)), (12, .v (.int .i64 i))])
    (e0 : env 0 = fPts fl L) (e1 : env 1 = .v (.int .i64 n)) (e2 : env 2 = .v (.int .u8 bits)) (e7 : env 7 = .op a0 0) (e9 : env 9 = .op a1 0) (e10 : env 10 = .op a2 0) (e11 : env 11 = .v (.int .i64 s.n)) (e12 : env 12 = .v (.int .i64 i))
    (s0 : σ a0 = some (.row true 50 [.os 2100003 0 16 1, .v (.slice none 0 0)])) (s1 : σ a1 = some (.row true 24 (ptR fl (decide (0 < s.n)) s.last))) (s2 : σ a2 = some (.row true 24 (ptR fl (decide (1 < s.n)) s.old)))
    (s3 : σ 2100003 = some (.row true 22 (osR 2100004 16 (gS s.d)))) (sF : ∀ j, j < 16 → σ (2100004 + j) = some (.row true 5 (gS s.d j))) :
    Weak N 0 ⟨env, σ, nx⟩ ⟨envOf l, heapOf (fixT fl s ++ famL 2100004 16 (fun j => .row true 5 (gS s.d j))), 3000000⟩ := by
  have hA0 := ha a0 (by simp)
  have hA1 := ha a1 (by simp)
  have hA2 := ha a2 (by simp)
  have hre : (([(a0, 0), (a1, 1), (a2, 2), (2100003, 2100003)] : List (Nat × Nat)).map (·.1)).Nodup := by simp; exact ⟨⟨hne.1, hne.2.1, by omega⟩, ⟨hne.2.2, by omega⟩, by omega⟩
  have hsep : ∀ p ∈ ([(a0, 0), (a1, 1), (a2, 2), (2100003, 2100003)] : List (Nat × Nat)), (p.1 < 2100004 ∨ 2100004 + 16 ≤ p.1) ∧ (p.2 < 2100004 ∨ 2100004 + 16 ≤ p.2) := by
    intro p hp; simp at hp; rcases hp with rfl | rfl | rfl | rfl <;> simp <;> omega
  have hn : (([(a0, 0), (a1, 1), (a2, 2), (2100003, 2100003)] ++ famR 2100004 16 : List (Nat × Nat)).map (·.1)).Nodup := by
    rw [List.map_append, famR_1, List.nodup_append]
    refine ⟨hre, range_nodup 2100004 _, fun a ha c hc e => ?_⟩
    rw [mem_rangeb] at hc
    obtain ⟨p, hp, rfl⟩ := List.mem_map.1 ha
    have := (hsep p hp).1; omega
  generalize hR : ([(a0, 0), (a1, 1), (a2, 2), (2100003, 2100003)] ++ famR 2100004 16 : List (Nat × Nat)) = R at hn
  have q0 : rn R a0 = 0 := rn_mem (p := (a0, 0)) (by rw [← hR]; simp) hn
  have q1 : rn R a1 = 1 := rn_mem (p := (a1, 1)) (by rw [← hR]; simp) hn
  have q2 : rn R a2 = 2 := rn_mem (p := (a2, 2)) (by rw [← hR]; simp) hn
  have q3 : rn R 2100003 = 2100003 := rn_mem (p := (2100003, 2100003)) (by rw [← hR]; simp) hn
  have qF : ∀ j, j < 16 → rn R (2100004 + j) = 2100004 + j := fun j hj => rn_mem (p := (2100004 + j, 2100004 + j)) (by rw [← hR]; exact List.mem_append_right _ (famR_mem.2 ⟨rfl, by simp only; omega, by simp only; omega⟩)) hn
  have i0 : a0 ∈ R.map (·.1) := by rw [← hR]; simp
  have i1 : a1 ∈ R.map (·.1) := by rw [← hR]; simp
  have i2 : a2 ∈ R.map (·.1) := by rw [← hR]; simp
  have i3 : 2100003 ∈ R.map (·.1) := by rw [← hR]; simp
  have iF : ∀ j, j < 16 → 2100004 + j ∈ R.map (·.1) := fun j hj => by
    rw [← hR, List.map_append, famR_1]; exact List.mem_append_right _ (mem_rangeb.2 ⟨by omega, by omega⟩)
  refine Weak.toF (N := N) (m := 0) (s := ⟨env, σ, nx⟩) [(a0, 0), (a1, 1), (a2, 2), (2100003, 2100003)] 2100004 16 l (fixT fl s) (fun j => .row true 5 (gS s.d j)) 3000000
    hre (by simp) (by intro p hp; simp at hp; rcases hp with rfl | rfl | rfl | rfl <;> simp) (by omega) (by omega) (by omega) hsep ?_ ?_ ?_
  · rw [hR]
    intro t x hv
    show Al _ (env t) ∧ Imp (ren (rn R) (env t)) x
    rw [hl] at hv
    simp only [List.mem_cons, Prod.mk.injEq, List.not_mem_nil, or_false] at hv
    rcases hv with ⟨rfl, rfl⟩ | ⟨rfl, rfl⟩ | ⟨rfl, rfl⟩ | ⟨rfl, rfl⟩ | ⟨rfl, rfl⟩ | ⟨rfl, rfl⟩ | ⟨rfl, rfl⟩ | ⟨rfl, rfl⟩
    · rw [e0]; exact ⟨al_Pts _ _, by show Imp (.fs fl (renL (rn R) (ePts fl L)) L.length) _; rw [ren_Pts]; exact Imp.refl _⟩
    · rw [e1]; exact ⟨trivial, Imp.refl _⟩
    · rw [e2]; exact ⟨trivial, Imp.refl _⟩
    · rw [e7]; exact ⟨i0, by show Imp (.op (rn R a0) 0) _; rw [q0]; exact Imp.refl _⟩
    · rw [e9]; exact ⟨i1, by show Imp (.op (rn R a1) 0) _; rw [q1]; exact Imp.refl _⟩
    · rw [e10]; exact ⟨i2, by show Imp (.op (rn R a2) 0) _; rw [q2]; exact Imp.refl _⟩
    · rw [e11]; exact ⟨trivial, Imp.refl _⟩
    · rw [e12]; exact ⟨trivial, Imp.refl _⟩
  · rw [hR]
    intro j o hj
    simp only [fixT, List.mem_cons, Prod.mk.injEq, List.not_mem_nil, or_false] at hj
    rcases hj with ⟨rfl, rfl⟩ | ⟨rfl, rfl⟩ | ⟨rfl, rfl⟩ | ⟨rfl, rfl⟩
    · exact ⟨a0, _, _, _, by simp, s0, ⟨i3, trivial, trivial⟩, by simp [renL, ren, q3]⟩
    · exact ⟨a1, _, _, _, by simp, s1, al_ptR _ _ _, by rw [ren_ptR]⟩
    · exact ⟨a2, _, _, _, by simp, s2, al_ptR _ _ _, by rw [ren_ptR]⟩
    · exact ⟨2100003, _, _, _, by simp, s3, al_osR iF, by rw [renL_osR qF]⟩
  · intro j hj
    exact ⟨true, _, _, sF j hj, al_B _, rfl⟩
set_option maxHeartbeats 16000000 in
theorem pointTurns_spec (fl : Bool) (l : List Pt) (n bits : Int) (nb : Nat) (hl : l.length ≤ 140737488355328) (hd : ∀ p ∈ l, p.data.length ≤ 140737488355320) (hb : ∀ p ∈ l, okB p.data) (h8 : 0 ≤ bits ∧ bits < 256) :
    ASound Tryz.prog 5 [fPts fl l, .v (.int .i64 n), .v (.int .u8 bits)] nb (.ret (.v (.bool true)) []) := by
  refine ok_5.sound (by simp) ⟨al_Pts fl l, trivial, trivial, trivial⟩ ?_
  have n16 := new_spec 16
  simp only [aDk, fL, fWrs] at n16
  simp only [ac_5, fPts, TT, ↓reduceIte, Nat.reduceEqDiff, Nat.reduceAdd, Nat.reduceMul, reduceCtorEq, Nat.reduceLeDiff]
  refine ⟨_, alive_spec _, ?_⟩
  simp only [Bool.not_true, TT, ↓reduceIte, Nat.reduceEqDiff, Nat.reduceAdd, Nat.reduceMul, reduceCtorEq, Nat.reduceLeDiff]
  refine ⟨_, n16 _ (by decide) (by decide), ?_⟩
  simp only [TT, ↓reduceIte, Nat.reduceEqDiff, Nat.reduceAdd, Nat.reduceMul, reduceCtorEq, Nat.reduceLeDiff]
  refine ⟨_, num_spec 0 _, ?_⟩
  simp only [decide_true, Bool.not_true, TT, ↓reduceIte, Nat.reduceEqDiff, Nat.reduceAdd, Nat.reduceMul, reduceCtorEq, Nat.reduceLeDiff]
  refine AWc.family (Sx fl l n bits) (fun i => i ≤ l.length) (fun i => l.length - i) 0 (Nat.zero_le _) ?_ ?_
  · rw [Sx_0 (l := l) (i := 0) (fun h => Nat.lt_irrefl 0 h.1)]
    refine Weak.calc [(700000, 0), (1300000, 1), (1400000, 2)] (by decide) ?_ ?_ <;> simp [WT, al_Pts, ren_Pts, fPts, fWrs, fL, tr, tz, ptR, pt0, al_L, ren_L, al_Wrs, ren_Wrs]
  · intro i hi
    have hT := TI_tr l hb i
    have hni := tr_n l i
    by_cases hdn : done l i
    · rw [Sx_1 hdn]
      have hn0 := hdn.1
      have hfx : ∀ j, j < 16 → heapOf (fixT fl (tr l i)) (2100004 + j) = none := fun j hj => by
        simp only [fixT, heapOf]
        rw [if_neg (by omega), if_neg (by omega), if_neg (by omega), if_neg (by omega)]
      have l0 : heapOf (fixT fl (tr l i) ++ famL 2100004 16 (fun j => .row true 5 (gS (tr l i).d j))) 0 = some (.row true 50 [.os 2100003 0 16 1, .v (.slice none 0 0)]) := by rw [heapOf_append]; simp [heapOf]
      have l1 : heapOf (fixT fl (tr l i) ++ famL 2100004 16 (fun j => .row true 5 (gS (tr l i).d j))) 1 = some (.row true 24 (ptR fl (decide (0 < (tr l i).n)) (tr l i).last)) := by rw [heapOf_append]; simp [heapOf]
      have l2 : heapOf (fixT fl (tr l i) ++ famL 2100004 16 (fun j => .row true 5 (gS (tr l i).d j))) 2 = some (.row true 24 (ptR fl (decide (1 < (tr l i).n)) (tr l i).old)) := by rw [heapOf_append]; simp [heapOf]
      have l3 : heapOf (fixT fl (tr l i) ++ famL 2100004 16 (fun j => .row true 5 (gS (tr l i).d j))) 2100003 = some (.row true 22 (osR 2100004 16 (gS (tr l i).d))) := by rw [heapOf_append]; simp [heapOf]
      have lF : ∀ j, j < 16 → heapOf (fixT fl (tr l i) ++ famL 2100004 16 (fun j => .row true 5 (gS (tr l i).d j))) (2100004 + j) = some (.row true 5 (gS (tr l i).d j)) := fun j hj => by
        rw [heapOf_append, hfx j hj]
        simp only
        rw [s_heapFam, if_pos (by omega), show 2100004 + j - 2100004 = j from by omega]
      have hxl : ptR fl (decide (0 < (tr l i).n)) (tr l i).last = [.v (.int .i64 (tr l i).last.epoch), .v (.int .i64 (tr l i).last.seq), .v (.int .i64 (tr l i).last.view), .v (.int .i64 (tr l i).last.commit), .fs fl (eB (tr l i).last.data) (tr l i).last.data.length] := by simp [ptR, fB, hn0]
      have hse : ∀ t ∈ (tr l i).d.sectors, t ≠ [] := fun t ht e => by have := hT.c.ok.secs t ht; rw [e] at this; simp at this
      have hs16 := hT.n16
      simp only [S1, fPts]
      generalize heapOf (fixT fl (tr l i) ++ famL 2100004 16 (fun j => .row true 5 (gS (tr l i).d j))) = H at l0 l1 l2 l3 lF
      by_cases hlt : i < l.length ∧ i < 20
      · obtain ⟨p, hp, e1, e0⟩ := lt_at hlt.1
        have q20 : ((i : Int) < 20) := by omega
        have hts := tr_s hp
        have hts2 := hdn.2 i (Nat.le_refl _) hlt.1 hlt.2
        have hdp := hd p (List.mem_of_getElem? hp)
        have hdn1 : done l (i + 1) := ⟨by rw [hts2]; exact hn0, fun j h1 h2 h3 => hdn.2 j (by omega) h2 h3⟩
        have hS := Sx_1 (fl := fl) (n := n) (bits := bits) hdn1
        rw [hts2] at hS
        obtain ⟨g0, g1, g2, g3, g4⟩ := get_Pts (fr := fl) hp
        generalize hs : tr l i = s at *
        have hE : ptE (setE p s.n) ≠ 0 := fun h => by
          rw [hts2, tstep, if_pos h] at hts
          have := congrArg TS.n hts
          simp at this
        have wn : IntKind.i64.wrap ((s.n : Int) + 1) = ((s.n + 1 : Nat) : Int) := by rw [wrap64 (by omega)]; omega
        have co := of_spec fl (setE p s.n)
        have qc := rpcheck_spec fl (setE p s.n)
        generalize hpe : ptE (setE p s.n) = pe at qc
        have hst : storeD s.d (setE p s.n) = (dk0, pe) := by unfold storeD; rw [if_neg (by rw [askE_clean hT.c]; simp), if_pos hE, hpe]
        have cs := fun nb => store_h_bad (id := 2100003) hs16 (by decide) (by decide) hse hT.c.cache true (setE p s.n) pe hst nb
        rw [hpe] at hE
        have tpe : decide (pe = 0) = false := decide_eq_false hE
        simp only [aPt, aDk, fL, fWrs, fB, setE] at co qc cs
        simp only [e1, e0, q20, g0, g1, g2, g3, g4, wn, l0, decide_true, Int.toNat_natCast, Nat.zero_add, TT, ↓reduceIte, Nat.reduceEqDiff, Nat.reduceAdd, Nat.reduceMul, reduceCtorEq, Nat.reduceLeDiff]
        refine ⟨_, co _ (by omega), ?_⟩
        simp only [l0, TT, ↓reduceIte, Nat.reduceEqDiff, Nat.reduceAdd, Nat.reduceMul, reduceCtorEq, Nat.reduceLeDiff]
        refine ⟨_, cs _, ?_⟩
        refine runK_rows (fun x hx => ?_) ?_
        · rcases List.mem_cons.1 hx with rfl | hx
          · simp only [s_put1]
            rw [if_neg (by decide), if_neg (by decide), if_neg (by decide)]; exact l3
          · obtain ⟨j, hj, rfl⟩ := List.mem_map.1 hx
            rw [List.mem_range] at hj
            have e : 2100003 + 1 + j = 2100004 + j := by omega
            simp only [e, s_put1]
            rw [if_neg (by omega), if_neg (by omega), if_neg (by omega)]; exact lF j hj
        simp only [l0, TT, ↓reduceIte, Nat.reduceEqDiff, Nat.reduceAdd, Nat.reduceMul, reduceCtorEq, Nat.reduceLeDiff]
        refine ⟨by rfl, _, num_spec pe _, ?_⟩
        simp only [hE, tpe, decide_true, Bool.not_false, TT, ↓reduceIte, Nat.reduceEqDiff, Nat.reduceAdd, Nat.reduceMul, reduceCtorEq, Nat.reduceLeDiff]
        refine ⟨_, qc _, ?_⟩
        simp only [hE, tpe, decide_true, Bool.not_false, TT, ↓reduceIte, Nat.reduceEqDiff, Nat.reduceAdd, Nat.reduceMul, reduceCtorEq, Nat.reduceLeDiff]
        refine famC_next (i + 1) (by omega) (by omega) ?_
        rw [hS]
        refine fam_turn fl l n bits s (i + 1) (a0 := 0) (a1 := 1) (a2 := 2) (by decide) (by intro a ha; simp at ha; omega) rfl (by simp [ET, fPts]) (by simp [ET]) (by simp [ET]) (by simp [ET]) (by simp [ET]) (by simp [ET]) (by simp [ET]) (by simp [ET, wrap64 (x := (i : Int) + 1) (by omega)]) ?_ ?_ ?_ ?_ (fun j hj => ?_)
        · simp only [s_put1]
          rw [if_neg (by decide), if_neg (by decide), if_neg (by decide), if_neg (by decide), if_neg (by decide)]; exact l0
        · simp only [s_put1]
          rw [if_neg (by decide), if_neg (by decide), if_neg (by decide), if_neg (by decide), if_neg (by decide)]; exact l1
        · simp only [s_put1]
          rw [if_neg (by decide), if_neg (by decide), if_neg (by decide), if_neg (by decide), if_neg (by decide)]; exact l2
        · simp only [s_put1]
          rw [if_neg (by decide), if_neg (by decide), if_neg (by decide), if_neg (by decide), if_neg (by decide)]; exact l3
        · simp only [s_put1]
          rw [if_neg (by omega), if_neg (by omega), if_neg (by omega), if_neg (by omega), if_neg (by omega)]; exact lF j hj
      · have hload := load_n hT hn0
        have hTi := hT
        have cl := fun nb => load_h (id := 2100003) hs16 (by decide) (by decide) hse hT.c.cache hT.o nb
        have cS := sameP_spec true fl (tr l i).last (tr l i).last
        have tS : decide (sameP (tr l i).last (tr l i).last) = true := decide_eq_true (sameP_iff.2 rfl)
        have hlast := hT.l1 hn0
        have hold := hT.l2
        have hle := hT.le
        have hoct : ∀ {j : Nat} {x y : Int}, 1 < (tr l i).n → 2 ≤ j → j < 512 → (encP (tr l i).last).1[j]? = some x → (0 ≤ y ∧ y < 256) → y ≠ x → loadD (octS (tr l i).d (regP (tr l i).last) j y) = ((tr l i).old, 0) := fun h1 h2 h3 h4 h5 h6 => load_oct hT h1 h2 h3 h4 h5 h6
        rw [tS] at cS
        rw [hload] at cl
        generalize hs : tr l i = s at *
        simp only [aPt, fB] at cl cS
        have hn1 : ((s.n : Int) = 0) = False := eq_false (by omega)
        have hcase : (¬ ((i : Int) < (l.length : Int)) ∧ True) ∨ (((i : Int) < (l.length : Int)) ∧ ¬ ((i : Int) < 20)) := by
          rcases Nat.lt_or_ge i l.length with h | h
          · exact .inr ⟨by omega, by omega⟩
          · exact .inl ⟨by omega, trivial⟩
        rcases hcase with ⟨e1, q20⟩ | ⟨e1, q20⟩
        all_goals
          simp only [e1, q20, l0, decide_true, decide_false, TT, ↓reduceIte, Nat.reduceEqDiff, Nat.reduceAdd, Nat.reduceMul, reduceCtorEq, Nat.reduceLeDiff]
          refine ⟨_, cl _, ?_⟩
          refine runK_rows (fun x hx => ?_) ?_
          · rcases List.mem_cons.1 hx with rfl | hx
            · exact l3
            · obtain ⟨j, hj, rfl⟩ := List.mem_map.1 hx
              rw [List.mem_range] at hj
              have e : 2100003 + 1 + j = 2100004 + j := by omega
              simp only [e]
              exact lF j hj
          simp only [l0, l1, hxl, hn1, decide_true, decide_false, TT, ↓reduceIte, Nat.reduceEqDiff, Nat.reduceAdd, Nat.reduceMul, reduceCtorEq, Nat.reduceLeDiff]
          refine ⟨_, num_spec 0 _, ?_⟩
          simp only [l0, l1, hxl, hn1, decide_true, decide_false, Bool.not_true, TT, ↓reduceIte, Nat.reduceEqDiff, Nat.reduceAdd, Nat.reduceMul, reduceCtorEq, Nat.reduceLeDiff]
          refine ⟨_, cS _ (by omega), ?_⟩
          by_cases h1 : s.n = 1
          · have h1' : ((s.n : Int) = 1) = True := eq_true (by omega)
            simp only [h1', decide_true, decide_false, Bool.not_true, TT, ↓reduceIte, Nat.reduceEqDiff, Nat.reduceAdd, Nat.reduceMul, reduceCtorEq, Nat.reduceLeDiff]
            exact Ends.data (.inr rfl) (by simp [ET]) trivial
          by_cases hb0 : bits = 0
          · have h1' : ((s.n : Int) = 1) = False := eq_false (by omega)
            simp only [h1', hb0, decide_true, decide_false, Bool.not_true, TT, ↓reduceIte, Nat.reduceEqDiff, Nat.reduceAdd, Nat.reduceMul, reduceCtorEq, Nat.reduceLeDiff]
            exact Ends.data (.inr rfl) (by simp [ET]) trivial
          have h1' : ((s.n : Int) = 1) = False := eq_false (by omega)
          have hb0' : (bits = 0) = False := eq_false hb0
          have n510 : ((510 : Int) = 0) = False := eq_false (by decide)
          have z2 : ((2 : Int) = 0) = False := eq_false (by decide)
          have z64 : ((64 : Int) = 0) = False := eq_false (by decide)
          have f16 : (((16 : Nat) : Int) = 16) = True := eq_true rfl
          have f64 : (((64 : Nat) : Int) = 64) = True := eq_true rfl
          obtain ⟨k, ek, k2, k3⟩ := place n
          obtain ⟨la, lb, lc, lr⟩ := hlast
          obtain ⟨r, hr⟩ : ∃ r, r = regP s.last := ⟨_, rfl⟩
          have hr2 : r < 2 := by rw [hr]; exact regP_lt _
          have e8 : IntKind.i64.wrap (8 * s.last.epoch.tmod 2) = ((8 * r : Nat) : Int) := by
            rw [lb, Int.tmod_eq_emod_of_nonneg (by omega), wrap64 (by omega), hr]
            unfold regP
            rw [lb]; omega
          have e64 : ((k : Nat) : Int).tdiv 64 = ((k / 64 : Nat) : Int) := rfl
          have em : ((k : Nat) : Int).tmod 64 = ((k % 64 : Nat) : Int) := rfl
          have ew : IntKind.i64.wrap ((k / 64 : Nat) : Int) = ((k / 64 : Nat) : Int) := wrap64 (by omega)
          obtain ⟨sI, hsI⟩ : ∃ sI, sI = 8 * r + k / 64 := ⟨_, rfl⟩
          have es : IntKind.i64.wrap (((8 * r : Nat) : Int) + ((k / 64 : Nat) : Int)) = (sI : Int) := by rw [wrap64 (by omega)]; omega
          have c1 : ((0 : Int) ≤ (sI : Int)) = True := eq_true (by omega)
          have c2 : ((sI : Int) < ((16 : Nat) : Int)) = True := eq_true (by omega)
          have hsl : sI < s.d.sectors.length := by omega
          have hg64 : (gS s.d sI).length = 64 := by
            simp only [gS, List.getElem?_eq_getElem hsl, Option.getD_some, len_B]
            exact hTi.c.ok.secs _ (List.getElem_mem hsl)
          have hol : (osR 2100004 16 (gS s.d))[sI]? = some (.os (2100004 + sI) 0 64 1) := by simp [osR, show sI < 16 by omega, hg64]
          have lk := lF sI (by omega)
          have hq : (2100004 + sI = 4300000) = False := eq_false (by omega)
          have l5 := encP_len la
          obtain ⟨x, hx⟩ : ∃ x, (encP s.last).1[k]? = some x := ⟨_, List.getElem?_eq_getElem (by omega)⟩
          have hx8 := okB_encP lc x (List.mem_of_getElem? hx)
          have hgx : (gS s.d sI)[k % 64]? = some (.v (.int .u8 x)) := by
            rw [← lr, ← hr, regD_get hTi.c hr2 k3, ← hsI] at hx
            exact get_B hx
          have o1 : ((0 : Int) ≤ ((k % 64 : Nat) : Int)) = True := eq_true (by omega)
          have o2 : (((k % 64 : Nat) : Int) < ((64 : Nat) : Int)) = True := eq_true (by omega)
          simp only [h1', hb0', n510, l0, l1, hxl, decide_true, decide_false, Bool.not_true, ek, z2, z64, f16, e8, e64, ew, es, c1, c2, l3, hol, f64, em, o1, o2, lk, hq, hgx, hg64, and_self, if_true, if_false, Int.toNat_natCast, Nat.zero_add, TT, ↓reduceIte, Nat.reduceEqDiff, Nat.reduceAdd, Nat.reduceMul, reduceCtorEq, Nat.reduceLeDiff]
          have hn2 : 1 < s.n := by omega
          obtain ⟨oa, ob, oc, od'⟩ := hold hn2
          obtain ⟨hr1, hrx⟩ := xr_ok hx8 h8
          have hlo := hoct hn2 k2 k3 hx hr1 (hrx hb0)
          rw [← hr] at hlo
          have hxo : ptR fl (decide (1 < s.n)) s.old = [.v (.int .i64 s.old.epoch), .v (.int .i64 s.old.seq), .v (.int .i64 s.old.view), .v (.int .i64 s.old.commit), .fs fl (eB s.old.data) s.old.data.length] := by simp [ptR, fB, hn2]
          rw [hxo] at l2
          have hgD : ∀ j, gS (octS s.d r k (xr x bits)) j = if j = sI then (gS s.d sI).set (k % 64) (.v (.int .u8 (xr x bits))) else gS s.d j := fun j => by
            simp only [gS, octS, ← hsI]
            rw [List.getElem?_set]
            by_cases e : sI = j
            · subst e
              rw [if_pos rfl, if_pos hsl, if_pos rfl, Option.getD_some, set_B]
            · rw [if_neg e, if_neg (fun h => e h.symm)]
          have hcD := octS_clean hTi.c (i := k) (xr x bits) hr2 k3
          have hDl : (octS s.d r k (xr x bits)).sectors.length = 16 := by simp only [octS, List.length_set]; exact hs16
          have cl2 := fun nb => load_h (id := 2100003) hDl (by decide) (by decide) (fun t ht e => by have := hcD.ok.secs t ht; rw [e] at this; simp at this) hcD.cache (octS_oct hTi.c hTi.o hr2 k3 hr1) nb
          rw [hlo] at cl2
          have hos : osR 2100004 16 (gS s.d) = osR 2100004 16 (gS (octS s.d r k (xr x bits))) := osR_len fun j hj => by
            rw [hgD j]
            split
            · rename_i e; rw [List.length_set, e]
            · rfl
          rw [hos] at l3
          have hgs : gS (octS s.d r k (xr x bits)) sI = (gS s.d sI).set (k % 64) (.v (.int .u8 (xr x bits))) := by rw [hgD, if_pos rfl]
          have hgo : ∀ j, j ≠ sI → gS (octS s.d r k (xr x bits)) j = gS s.d j := fun j hj => by rw [hgD, if_neg hj]
          have cO := sameP_spec true fl s.old s.old
          have tO : decide (sameP s.old s.old) = true := decide_eq_true (sameP_iff.2 rfl)
          rw [tO] at cO
          simp only [aPt, fB] at cl2 cO
          generalize gS (octS s.d r k (xr x bits)) = g at cl2 l3 hgs hgo
          have q0 : (0 = 2100004 + sI) = False := eq_false (by omega)
          have q2 : (2 = 2100004 + sI) = False := eq_false (by omega)
          rw [if_pos (by omega)]
          simp only [q0, l0, TT, ↓reduceIte, Nat.reduceEqDiff, Nat.reduceAdd, Nat.reduceMul, reduceCtorEq, Nat.reduceLeDiff]
          refine ⟨_, cl2 _, ?_⟩
          refine runK_rows (fun y hy => ?_) ?_
          · rcases List.mem_cons.1 hy with rfl | hy
            · simp only [s_put1]
              rw [if_neg (by omega), if_neg (by decide), if_neg (by decide)]; exact l3
            · obtain ⟨j, hj, rfl⟩ := List.mem_map.1 hy
              rw [List.mem_range] at hj
              have e : 2100003 + 1 + j = 2100004 + j := by omega
              simp only [e, s_put1]
              by_cases hjs : j = sI
              · rw [if_pos (by omega), hjs, hgs]; rfl
              · rw [if_neg (by omega), if_neg (by omega), if_neg (by omega), hgo j hjs]; exact lF j hj
          simp only [q0, q2, l0, l2, TT, ↓reduceIte, Nat.reduceEqDiff, Nat.reduceAdd, Nat.reduceMul, reduceCtorEq, Nat.reduceLeDiff]
          refine ⟨_, num_spec 0 _, ?_⟩
          simp only [q0, q2, l0, l2, decide_true, decide_false, Bool.not_true, TT, ↓reduceIte, Nat.reduceEqDiff, Nat.reduceAdd, Nat.reduceMul, reduceCtorEq, Nat.reduceLeDiff]
          refine ⟨_, cO _ (by omega), ?_⟩
          simp only [decide_true, decide_false, Bool.not_true, TT, ↓reduceIte, Nat.reduceEqDiff, Nat.reduceAdd, Nat.reduceMul, reduceCtorEq, Nat.reduceLeDiff]
          exact Ends.data (.inr rfl) (by simp [ET]) trivial

    · rw [Sx_0 hdn]
      have hsx0 : ¬ done l (i + 1) → Sx fl l n bits (i + 1) = S0 fl l n bits (tr l (i + 1)) (i + 1) := Sx_0
      have hsx1 : done l (i + 1) → Sx fl l n bits (i + 1) = S1 fl l n bits (tr l (i + 1)) (i + 1) := Sx_1
      have hdn' : i < l.length → i < 20 → tr l (i + 1) = tr l i → ¬ done l (i + 1) := fun h1 h2 e h => hdn ⟨by rw [← e]; exact h.1, fun j hj h3 h4 => by
        rcases Nat.lt_or_ge i j with h5 | h5
        · exact h.2 j h5 h3 h4
        · obtain rfl : i = j := by omega
          exact e⟩
      have hz : ¬ (i < l.length ∧ i < 20) → (tr l i).n = 0 := fun h => Classical.byContradiction fun h0 => hdn ⟨by omega, fun j h1 h2 h3 => absurd ⟨by omega, by omega⟩ h⟩
      obtain ⟨xl, hxl⟩ : ∃ xl, ptR fl (decide (0 < (tr l i).n)) (tr l i).last = [.v (.int .i64 (tr l i).last.epoch), .v (.int .i64 (tr l i).last.seq), .v (.int .i64 (tr l i).last.view), .v (.int .i64 (tr l i).last.commit), xl] := ⟨_, rfl⟩
      obtain ⟨xo, hxo⟩ : ∃ xo, ptR fl (decide (1 < (tr l i).n)) (tr l i).old = [.v (.int .i64 (tr l i).old.epoch), .v (.int .i64 (tr l i).old.seq), .v (.int .i64 (tr l i).old.view), .v (.int .i64 (tr l i).old.commit), xo] := ⟨_, rfl⟩
      have axl : ∀ p, Al p xl := fun p => by have h := al_ptR (p := p) fl (decide (0 < (tr l i).n)) (tr l i).last; rw [hxl] at h; exact h.2.2.2.2.1
      have axo : ∀ p, Al p xo := fun p => by have h := al_ptR (p := p) fl (decide (1 < (tr l i).n)) (tr l i).old; rw [hxo] at h; exact h.2.2.2.2.1
      have rxl : ∀ ρ, ren ρ xl = xl := fun ρ => ren_id (p := fun _ => False) (fun _ h => h.elim) (axl _)
      have rxo : ∀ ρ, ren ρ xo = xo := fun ρ => ren_id (p := fun _ => False) (fun _ h => h.elim) (axo _)
      simp only [S0, fPts, fL, fWrs, hxl, hxo]
      by_cases hlt : i < l.length ∧ i < 20
      · obtain ⟨p, hp, e1, e0⟩ := lt_at hlt.1
        have q20 : ((i : Int) < 20) := by omega
        have hts := tr_s hp
        have hpl := List.mem_of_getElem? hp
        have hdp := hd p hpl
        obtain ⟨g0, g1, g2, g3, g4⟩ := get_Pts (fr := fl) hp
        generalize hs : tr l i = s at *
        clear hz
        have wn : IntKind.i64.wrap ((s.n : Int) + 1) = ((s.n + 1 : Nat) : Int) := by rw [wrap64 (by omega)]; omega
        have wi : IntKind.i64.wrap ((i : Int) + 1) = ((i + 1 : Nat) : Int) := by rw [wrap64 (by omega)]; omega
        have co := of_spec fl (setE p s.n)
        have qc := rpcheck_spec fl (setE p s.n)
        generalize hpe : ptE (setE p s.n) = pe at qc
        have hsd : s.d.sectors.length ≤ 140737488355328 := by have := hT.n16; omega
        simp only [aPt, fB, setE] at co qc
        simp only [e1, e0, q20, g0, g1, g2, g3, g4, wn, decide_true, Int.toNat_natCast, Nat.zero_add, TT, ↓reduceIte, Nat.reduceEqDiff, Nat.reduceAdd, Nat.reduceMul, reduceCtorEq, Nat.reduceLeDiff]
        refine ⟨_, co _ (by omega), ?_⟩
        simp only [TT, ↓reduceIte, Nat.reduceEqDiff, Nat.reduceAdd, Nat.reduceMul, reduceCtorEq, Nat.reduceLeDiff]
        by_cases hE : ptE (setE p s.n) = 0
        · have hk := (okP_iff _).1 hE
          have hts' : tr l (i + 1) = ⟨stD s.d (regP (setE p s.n)) (encP (setE p s.n)).1, setE p s.n, s.last, s.n + 1⟩ := by rw [hts, tstep, if_pos hE]
          by_cases hd1 : done l (i + 1)
          · have cs := store_os true true s.d (setE p s.n)
            rw [hT.n16] at cs
            have hS := hsx1 hd1
            rw [hts'] at hS
            have hpu : ∀ j, PuL (gS (stD s.d (regP (setE p s.n)) (encP (setE p s.n)).1) j) := fun j => al_B _
            generalize stD s.d (regP (setE p s.n)) (encP (setE p s.n)).1 = D' at cs hS hpu
            simp only [aDk, aPt, fL, fWrs, fB, setE, hT.n16] at cs
            simp only [hT.n16]
            refine ⟨_, cs _ hT.c hk, ?_⟩
            simp only [TT, ↓reduceIte, Nat.reduceEqDiff, Nat.reduceAdd, Nat.reduceMul, reduceCtorEq, Nat.reduceLeDiff]
            refine ⟨by rfl, ?_⟩
            refine ⟨_, num_spec 0 _, ?_⟩
            have k0 := fun (σ : Heap) => app_lt (nb := 2100003) (i := 0) σ ((true, 22, osR (2100003 + 1) 16 (gS D')) :: famW 5 16 (gS D')) (by decide)
            have k1 := fun (σ : Heap) => app_lt (nb := 2100003) (i := 1) σ ((true, 22, osR (2100003 + 1) 16 (gS D')) :: famW 5 16 (gS D')) (by decide)
            have k2 := fun (σ : Heap) => app_lt (nb := 2100003) (i := 2) σ ((true, 22, osR (2100003 + 1) 16 (gS D')) :: famW 5 16 (gS D')) (by decide)
            have k3 := fun (σ : Heap) => app_lt (nb := 2100003) (i := 1200003) σ ((true, 22, osR (2100003 + 1) 16 (gS D')) :: famW 5 16 (gS D')) (by decide)
            simp only [k0, k1, k2, k3, decide_true, Bool.not_true, TT, ↓reduceIte, Nat.reduceEqDiff, Nat.reduceAdd, Nat.reduceMul, reduceCtorEq, Nat.reduceLeDiff]
            refine ⟨by rfl, ?_⟩
            have hx2 : ptR fl (decide (1 < s.n + 1)) s.last = [.v (.int .i64 s.last.epoch), .v (.int .i64 s.last.seq), .v (.int .i64 s.last.view), .v (.int .i64 s.last.commit), xl] := by rw [← hxl, show decide (1 < s.n + 1) = decide (0 < s.n) from by simp]
            have hx3 : ptR fl (decide (0 < s.n + 1)) (setE p s.n) = [.v (.int .i64 ((s.n + 1 : Nat) : Int)), .v (.int .i64 p.seq), .v (.int .i64 p.view), .v (.int .i64 p.commit), .fs fl (eB p.data) p.data.length] := by simp [ptR, setE, fB]
            refine famC_next (i + 1) (by omega) (by omega) ?_
            rw [hS]
            refine fam_turn fl l n bits ⟨D', setE p s.n, s.last, s.n + 1⟩ (i + 1) (a0 := 0) (a1 := 1) (a2 := 2) (by decide) (by intro a ha; simp at ha; omega) rfl (by simp [ET, fPts]) (by simp [ET]) (by simp [ET]) (by simp [ET]) (by simp [ET]) (by simp [ET]) (by simp [ET, wrap64 (x := (s.n : Int) + 1) (by omega)]) (by simp [ET, wrap64 (x := (i : Int) + 1) (by omega)]) ?_ ?_ ?_ ?_ (fun j hj => ?_)
            · simp [s_put1]
            · simp only [s_put1]; simp [ptR, setE, fB]
            · simp only [s_put1]; simp; exact hxl.symm
            · simp only [s_put1]
              rw [if_neg (by decide), if_neg (by decide), if_neg (by decide), if_neg (by decide), if_neg (by decide)]; exact app_0 _ _ _
            · simp only [s_put1]
              rw [if_neg (by omega), if_neg (by omega), if_neg (by omega), if_neg (by omega), if_neg (by omega)]; exact app_fam _ _ _ hj

          · have cs := store_spec true true s.d (setE p s.n)
            rw [storeD_clean hT.c hk] at cs
            have hS := hsx0 hd1
            rw [hts'] at hS
            generalize stD s.d (regP (setE p s.n)) (encP (setE p s.n)).1 = D' at cs hS
            simp only [aDk, aPt, fL, fWrs, fB, setE] at cs
            refine ⟨_, cs _ hsd, ?_⟩
            simp only [TT, ↓reduceIte, Nat.reduceEqDiff, Nat.reduceAdd, Nat.reduceMul, reduceCtorEq, Nat.reduceLeDiff]
            refine ⟨by rfl, ?_⟩
            refine ⟨_, num_spec 0 _, ?_⟩
            simp only [decide_true, Bool.not_true, TT, ↓reduceIte, Nat.reduceEqDiff, Nat.reduceAdd, Nat.reduceMul, reduceCtorEq, Nat.reduceLeDiff]
            refine ⟨by rfl, ?_⟩
            have wn2 : IntKind.i64.wrap ((s.n : Int) + 1) = ((s.n + 1 : Nat) : Int) := wn
            have hx2 : ptR fl (decide (1 < s.n + 1)) s.last = [.v (.int .i64 s.last.epoch), .v (.int .i64 s.last.seq), .v (.int .i64 s.last.view), .v (.int .i64 s.last.commit), xl] := by rw [← hxl, show decide (1 < s.n + 1) = decide (0 < s.n) from by simp]
            have hx3 : ptR fl (decide (0 < s.n + 1)) (setE p s.n) = [.v (.int .i64 ((s.n + 1 : Nat) : Int)), .v (.int .i64 p.seq), .v (.int .i64 p.view), .v (.int .i64 p.commit), .fs fl (eB p.data) p.data.length] := by simp [ptR, setE, fB]
            refine famC_next (i + 1) (by omega) (by omega) ?_
            rw [hS]
            simp only [S0, hx2, hx3, wi, fPts, fL, fWrs]
            refine Weak.calc [(0, 0), (1, 1), (2, 2)] (by decide) ?_ ?_ <;> simp [WT, al_Pts, ren_Pts, al_L, ren_L, al_Wrs, ren_Wrs, axl, axo, rxl, rxo, wrap64 (x := (s.n : Int) + 1) (by omega), wrap64 (x := (i : Int) + 1) (by omega)]
        · have hts' : tr l (i + 1) = s := by rw [hts, tstep, if_neg hE]
          have cs := store_spec true true s.d (setE p s.n)
          have hst : storeD s.d (setE p s.n) = (dk0, ptE (setE p s.n)) := by unfold storeD; rw [if_neg (by rw [askE_clean hT.c]; simp), if_pos hE]
          have hS := hsx0 (hdn' hlt.1 hlt.2 hts')
          rw [hts'] at hS
          rw [hst, hpe] at cs
          rw [hpe] at hE
          have tpe : decide (pe = 0) = false := decide_eq_false hE
          simp only [aDk, aPt, fL, fWrs, fB, setE] at cs
          refine ⟨_, cs _ hsd, ?_⟩
          simp only [TT, ↓reduceIte, Nat.reduceEqDiff, Nat.reduceAdd, Nat.reduceMul, reduceCtorEq, Nat.reduceLeDiff]
          refine ⟨by rfl, ?_⟩
          refine ⟨_, num_spec pe _, ?_⟩
          simp only [hE, tpe, decide_true, Bool.not_false, TT, ↓reduceIte, Nat.reduceEqDiff, Nat.reduceAdd, Nat.reduceMul, reduceCtorEq, Nat.reduceLeDiff]
          refine ⟨_, qc _, ?_⟩
          simp only [hE, tpe, decide_true, Bool.not_false, TT, ↓reduceIte, Nat.reduceEqDiff, Nat.reduceAdd, Nat.reduceMul, reduceCtorEq, Nat.reduceLeDiff]
          refine famC_next (i + 1) (by omega) (by omega) ?_
          rw [hS]
          simp only [S0, hxl, hxo, fPts, fL, fWrs]
          refine Weak.calc [(0, 0), (1, 1), (2, 2)] (by decide) ?_ ?_ <;> simp [WT, al_Pts, ren_Pts, al_L, ren_L, al_Wrs, ren_Wrs, axl, axo, rxl, rxo, wrap64 (x := (i : Int) + 1) (by omega)]
      · have hn0 := hz hlt
        have ld := load_spec true (tr l i).d
        rw [load_0 hT hn0] at ld
        have hsd : (tr l i).d.sectors.length ≤ 140737488355328 := by have := hT.n16; omega
        have t0 : (((tr l i).n : Int) = 0) = True := eq_true (by omega)
        simp only [aDk, fL, fWrs, aPt, fB, pt0] at ld
        have hcase : (¬ ((i : Int) < (l.length : Int)) ∧ True) ∨ (((i : Int) < (l.length : Int)) ∧ ¬ ((i : Int) < 20)) := by
          rcases Nat.lt_or_ge i l.length with h | h
          · exact .inr ⟨by omega, by omega⟩
          · exact .inl ⟨by omega, trivial⟩
        rcases hcase with ⟨e1, q20⟩ | ⟨e1, q20⟩
        all_goals
          simp only [e1, q20, decide_true, decide_false, TT, ↓reduceIte, Nat.reduceEqDiff, Nat.reduceAdd, Nat.reduceMul, reduceCtorEq, Nat.reduceLeDiff]
          refine ⟨_, ld _ hT.o hsd, ?_⟩
          simp only [t0, decide_true, decide_false, TT, ↓reduceIte, Nat.reduceEqDiff, Nat.reduceAdd, Nat.reduceMul, reduceCtorEq, Nat.reduceLeDiff]
          refine ⟨_, num_spec 21 _, ?_⟩
          simp only [decide_true, decide_false, TT, ↓reduceIte, Nat.reduceEqDiff, Nat.reduceAdd, Nat.reduceMul, reduceCtorEq, Nat.reduceLeDiff]
          exact Ends.data (.inr rfl) (by simp [ET]) trivial
end Go.Proofs.YtdenddhdeloceaaGreatDoor
