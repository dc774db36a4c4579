/- Merged texts: EZ, KC, JR, JS, B8. -/
import Derived.Test.YtfoeddmbhmfjcaaXJ
import Derived.Test.YtfoeddmbhmfjcaaXD
import Derived.Test.YtfoeddmbhmfjcaaProg
import Derived.Test.YtfoeddmbhmfjcaaXI
import Derived.Test.YtfoeddmbhmfjcaaXH
set_option linter.unusedSimpArgs false
set_option linter.unusedVariables false
/- The program's Clean, of a state that may be old. -/
namespace Go.Proofs.Ytfoeddmbhmfjcaa
open Go.RowKit
set_option maxRecDepth 100000
abbrev L_cleanF (l : List Blk) (slot seq : Int) (k : Nat × St × Bool) : ASt := ⟨envOf [(3, .op 0 0), (4, .op 1 0), (6, fBlks true l), (8, .op 2 0), (9, .v (.int .i64 k.1))],
  heapOf [(0, .row true 66 [.v (.int .i64 slot), .v (.int .i64 seq)]), (1, .row true 36 [.v (.slice none 0 0), .v (.slice none 0 0), .v (.slice none 0 0), .v (.int .i64 0)]), (2, stRow 36 k.2.2 k.2.1)], 3⟩
set_option maxHeartbeats 2000000 in
theorem clean_specF (s : St) (slot seq : Int) (nb : Nat) (hok : okSt s) : ASound Try.prog 33 [aSt false s, aRec slot seq] nb (.ret (.tup [aSt true (cl s slot seq).1, .v (.int .i64 (cl s slot seq).2)]) []) := by
  refine ok_33.sound (by simp) ⟨al_aSt s, ⟨trivial, trivial, trivial⟩, trivial⟩ ?_
  simp only [ac_33, aRec, SS, boxA, cellsOf, foffA, loadA, ldA, idxA, fldA, binA, binVal, isSh, intVal, lenA, slenA, pickA, storeA, setN, getN, fillA, extA, beqA, eqsA, eqL, isnilA, unA, unVal, convA, nilA, sconvA, b2sA, b2sOf, bytesOf, mmA, srcA, appA, sliceA, lohi, mkslA, envA, ↓reduceIte, Nat.reduceEqDiff, Nat.reduceAdd, Nat.reduceMul, reduceCtorEq, Nat.reduceLeDiff, fB, fBools, fBlks, fSegs, aBlk, aSg, aSt, stRow, List.drop_zero, List.take_succ_cons, List.take_zero, List.take_nil, Nat.mul_one, Nat.one_mul, List.cons_append, List.nil_append]
  refine ⟨_, logLive_A false s slot _ hok, ?_⟩
  simp only [SS, boxA, cellsOf, foffA, loadA, ldA, idxA, fldA, binA, binVal, isSh, intVal, lenA, slenA, pickA, storeA, setN, getN, fillA, extA, beqA, eqsA, eqL, isnilA, unA, unVal, convA, nilA, sconvA, b2sA, b2sOf, bytesOf, mmA, srcA, appA, sliceA, lohi, mkslA, envA, ↓reduceIte, Nat.reduceEqDiff, Nat.reduceAdd, Nat.reduceMul, reduceCtorEq, Nat.reduceLeDiff, fB, fBools, fBlks, fSegs, aBlk, aSg, aSt, stRow, List.drop_zero, List.take_succ_cons, List.take_zero, List.take_nil, Nat.mul_one, Nat.one_mul, List.cons_append, List.nil_append]
  by_cases hu : liveErr s slot = 0
  · have hu' := hu
    rw [← used_eq] at hu'
    obtain ⟨hc, i, x, rfl, hx, hf⟩ := usedE_0 hu'
    have g := (rchk_iff s).1 hc
    have hlt : i < s.segs.length := by rw [List.getElem?_eq_some_iff] at hx; exact hx.1
    have e1 : (i : Int) < (s.segs.length : Int) := by omega
    have e0 : (0 : Int) ≤ (i : Int) := by omega
    obtain ⟨g0, g1⟩ := get_Segs (fr := false) hx
    have hcl : cl s i seq = if x.seq = seq then clFree i (clPut (liveL s i) s) else (St.zero, 81) := by
      unfold cl
      rw [if_pos hu, Int.toNat_natCast, hx]
    simp only [hu, e1, e0, g0, not_true, SS, boxA, cellsOf, foffA, loadA, ldA, idxA, fldA, binA, binVal, isSh, intVal, lenA, slenA, pickA, storeA, setN, getN, fillA, extA, beqA, eqsA, eqL, isnilA, unA, unVal, convA, nilA, sconvA, b2sA, b2sOf, bytesOf, mmA, srcA, appA, sliceA, lohi, mkslA, envA, ↓reduceIte, Nat.reduceEqDiff, Nat.reduceAdd, Nat.reduceMul, reduceCtorEq, Nat.reduceLeDiff, fB, fBools, fBlks, fSegs, aBlk, aSg, aSt, stRow, List.drop_zero, List.take_succ_cons, List.take_zero, List.take_nil, Nat.mul_one, Nat.one_mul, List.cons_append, List.nil_append]
    by_cases hq : x.seq = seq
    · rw [if_pos hq] at hcl
      simp only [hq, not_true, SS, boxA, cellsOf, foffA, loadA, ldA, idxA, fldA, binA, binVal, isSh, intVal, lenA, slenA, pickA, storeA, setN, getN, fillA, extA, beqA, eqsA, eqL, isnilA, unA, unVal, convA, nilA, sconvA, b2sA, b2sOf, bytesOf, mmA, srcA, appA, sliceA, lohi, mkslA, envA, ↓reduceIte, Nat.reduceEqDiff, Nat.reduceAdd, Nat.reduceMul, reduceCtorEq, Nat.reduceLeDiff, fB, fBools, fBlks, fSegs, aBlk, aSg, aSt, stRow, List.drop_zero, List.take_succ_cons, List.take_zero, List.take_nil, Nat.mul_one, Nat.one_mul, List.cons_append, List.nil_append]
      have hm := live_may (s := s) (slot := (i : Int))
      have hbo := live_blkok (slot := (i : Int)) hok
      have hl8 := (live_len s (i : Int)).1
      generalize liveL s (i : Int) = l at hcl hm hbo hl8 ⊢
      refine ⟨by rfl, ?_⟩
      refine AWc.family (L_cleanF l i seq) (fun k => k.1 ≤ l.length ∧ Good k.2.1 ∧ okSt k.2.1 ∧ clGo (l.drop k.1) k.2.1 = clGo l s) (fun k => 2 * (l.length - k.1) + (if k.2.1.opn.length = 8 then 1 else 0)) (0, s, false) ⟨Nat.zero_le _, g, hok, rfl⟩ ?_ ?_
      · refine Weak.calc [(64, 0), (128, 1), (1664, 2)] (by decide) ?_ ?_ <;> simp [hq, tk_B, tk_Bools, tk_Blks, tk_Segs, AlL_append, renL_append, okL, okH, rowIs, okV, okHV, rowVt, vtL, okF, okHF, rowFz, fzL, fzV, fzOne, nilLike, oldLike, rn, s_envOf, s_envOf0, s_heapOf, s_heapOf0, s_put, s_put0, s_put1, s_app0, s_app1, Al, AlL, ren, renL, al_B, al_Bools, al_Blks, al_Segs, ren_B, ren_Bools, ren_Blks, ren_Segs, fB, fBools, fBlks, fSegs]
      · rintro ⟨k, t, fr⟩ ⟨hk, gt, okt, hgo⟩
        simp only at hk gt okt hgo
        by_cases hlt : k < l.length
        · obtain ⟨b, hb, e1, e0⟩ := lt_at hlt
          have hbm := List.mem_of_getElem? hb
          obtain ⟨g0, g1, g2, g3⟩ := get_Blks3 (fr := true) hb
          have e3 : k * 3 + 3 ≤ l.length * 3 := by omega
          have hd : l.drop k = b :: l.drop (k + 1) := by
            rw [List.getElem?_eq_some_iff] at hb
            obtain ⟨h1, rfl⟩ := hb
            exact List.drop_eq_getElem_cons h1
          rw [hd] at hgo
          simp only [L_cleanF, g0, g1, g2, g3, e1, e0, e3, len_Blks, SS, boxA, cellsOf, foffA, loadA, ldA, idxA, fldA, binA, binVal, isSh, intVal, lenA, slenA, pickA, storeA, setN, getN, fillA, extA, beqA, eqsA, eqL, isnilA, unA, unVal, convA, nilA, sconvA, b2sA, b2sOf, bytesOf, mmA, srcA, appA, sliceA, lohi, mkslA, envA, ↓reduceIte, Nat.reduceEqDiff, Nat.reduceAdd, Nat.reduceMul, reduceCtorEq, Nat.reduceLeDiff, fB, fBools, fBlks, fSegs, aBlk, aSg, aSt, stRow, List.drop_zero, List.take_succ_cons, List.take_zero, List.take_nil, Nat.mul_one, Nat.one_mul, List.cons_append, List.nil_append]
          refine ⟨_, logPut_A fr true t b _ okt (hbo b hbm), ?_⟩
          simp only [SS, boxA, cellsOf, foffA, loadA, ldA, idxA, fldA, binA, binVal, isSh, intVal, lenA, slenA, pickA, storeA, setN, getN, fillA, extA, beqA, eqsA, eqL, isnilA, unA, unVal, convA, nilA, sconvA, b2sA, b2sOf, bytesOf, mmA, srcA, appA, sliceA, lohi, mkslA, envA, ↓reduceIte, Nat.reduceEqDiff, Nat.reduceAdd, Nat.reduceMul, reduceCtorEq, Nat.reduceLeDiff, fB, fBools, fBlks, fSegs, aBlk, aSg, aSt, stRow, List.drop_zero, List.take_succ_cons, List.take_zero, List.take_nil, Nat.mul_one, Nat.one_mul, List.cons_append, List.nil_append]
          refine ⟨by rfl, ?_⟩
          by_cases hp : putErr t b = 0
          · simp only [hp, SS, boxA, cellsOf, foffA, loadA, ldA, idxA, fldA, binA, binVal, isSh, intVal, lenA, slenA, pickA, storeA, setN, getN, fillA, extA, beqA, eqsA, eqL, isnilA, unA, unVal, convA, nilA, sconvA, b2sA, b2sOf, bytesOf, mmA, srcA, appA, sliceA, lohi, mkslA, envA, ↓reduceIte, Nat.reduceEqDiff, Nat.reduceAdd, Nat.reduceMul, reduceCtorEq, Nat.reduceLeDiff, fB, fBools, fBlks, fSegs, aBlk, aSg, aSt, stRow, List.drop_zero, List.take_succ_cons, List.take_zero, List.take_nil, Nat.mul_one, Nat.one_mul, List.cons_append, List.nil_append]
            refine famC_next (k + 1, putSt t b, true) (by simp only; split <;> split <;> omega) ⟨by simp only; omega, good_put gt (hm b hbm) hp, okSt_put okt (hbo b hbm), by rw [← hgo]; simp [clGo, hp]⟩ ?_
            refine Weak.calc [(0, 0), (1, 1), (2, 2)] (by decide) ?_ ?_ <;> simp [tk_B, tk_Bools, tk_Blks, tk_Segs, AlL_append, renL_append, okL, okH, rowIs, okV, okHV, rowVt, vtL, okF, okHF, rowFz, fzL, fzV, fzOne, nilLike, oldLike, rn, s_envOf, s_envOf0, s_heapOf, s_heapOf0, s_put, s_put0, s_put1, s_app0, s_app1, Al, AlL, ren, renL, al_B, al_Bools, al_Blks, al_Segs, ren_B, ren_Bools, ren_Blks, ren_Segs, fB, fBools, fBlks, fSegs, wrap64 (x := (k : Int) + 1) (by omega)]
          · simp only [hp, SS, boxA, cellsOf, foffA, loadA, ldA, idxA, fldA, binA, binVal, isSh, intVal, lenA, slenA, pickA, storeA, setN, getN, fillA, extA, beqA, eqsA, eqL, isnilA, unA, unVal, convA, nilA, sconvA, b2sA, b2sOf, bytesOf, mmA, srcA, appA, sliceA, lohi, mkslA, envA, ↓reduceIte, Nat.reduceEqDiff, Nat.reduceAdd, Nat.reduceMul, reduceCtorEq, Nat.reduceLeDiff, fB, fBools, fBlks, fSegs, aBlk, aSg, aSt, stRow, List.drop_zero, List.take_succ_cons, List.take_zero, List.take_nil, Nat.mul_one, Nat.one_mul, List.cons_append, List.nil_append]
            refine ⟨_, logSeal_A fr t _ okt, ?_⟩
            simp only [SS, boxA, cellsOf, foffA, loadA, ldA, idxA, fldA, binA, binVal, isSh, intVal, lenA, slenA, pickA, storeA, setN, getN, fillA, extA, beqA, eqsA, eqL, isnilA, unA, unVal, convA, nilA, sconvA, b2sA, b2sOf, bytesOf, mmA, srcA, appA, sliceA, lohi, mkslA, envA, ↓reduceIte, Nat.reduceEqDiff, Nat.reduceAdd, Nat.reduceMul, reduceCtorEq, Nat.reduceLeDiff, fB, fBools, fBlks, fSegs, aBlk, aSg, aSt, stRow, List.drop_zero, List.take_succ_cons, List.take_zero, List.take_nil, Nat.mul_one, Nat.one_mul, List.cons_append, List.nil_append]
            have h8 : t.opn.length = 8 := by
              have := put_ok gt (hm b hbm)
              by_cases e : t.opn.length = 8
              · exact e
              · rw [if_neg e] at this; exact absurd this hp
            by_cases hs : slErr t = 0
            · simp only [hs, not_true, SS, boxA, cellsOf, foffA, loadA, ldA, idxA, fldA, binA, binVal, isSh, intVal, lenA, slenA, pickA, storeA, setN, getN, fillA, extA, beqA, eqsA, eqL, isnilA, unA, unVal, convA, nilA, sconvA, b2sA, b2sOf, bytesOf, mmA, srcA, appA, sliceA, lohi, mkslA, envA, ↓reduceIte, Nat.reduceEqDiff, Nat.reduceAdd, Nat.reduceMul, reduceCtorEq, Nat.reduceLeDiff, fB, fBools, fBlks, fSegs, aBlk, aSg, aSt, stRow, List.drop_zero, List.take_succ_cons, List.take_zero, List.take_nil, Nat.mul_one, Nat.one_mul, List.cons_append, List.nil_append]
              have gs := good_seal gt hs
              have h2 : putErr (slSt t) b = 0 := by rw [put_ok gs (hm b hbm), seal_opn hs]; rfl
              refine famC_next (k, slSt t, true) (by simp only [seal_opn hs, h8]; simp) ⟨by simp only; omega, gs, okSt_seal okt, by rw [← hgo]; simp only; rw [hd]; simp [clGo, hp, hs, h2]⟩ ?_
              refine Weak.calc [(0, 0), (1, 1), (2, 2)] (by decide) ?_ ?_ <;> simp [tk_B, tk_Bools, tk_Blks, tk_Segs, AlL_append, renL_append, okL, okH, rowIs, okV, okHV, rowVt, vtL, okF, okHF, rowFz, fzL, fzV, fzOne, nilLike, oldLike, rn, s_envOf, s_envOf0, s_heapOf, s_heapOf0, s_put, s_put0, s_put1, s_app0, s_app1, Al, AlL, ren, renL, al_B, al_Bools, al_Blks, al_Segs, ren_B, ren_Bools, ren_Blks, ren_Segs, fB, fBools, fBlks, fSegs]
            · simp only [hs, not_false_eq_true, SS, boxA, cellsOf, foffA, loadA, ldA, idxA, fldA, binA, binVal, isSh, intVal, lenA, slenA, pickA, storeA, setN, getN, fillA, extA, beqA, eqsA, eqL, isnilA, unA, unVal, convA, nilA, sconvA, b2sA, b2sOf, bytesOf, mmA, srcA, appA, sliceA, lohi, mkslA, envA, ↓reduceIte, Nat.reduceEqDiff, Nat.reduceAdd, Nat.reduceMul, reduceCtorEq, Nat.reduceLeDiff, fB, fBools, fBlks, fSegs, aBlk, aSg, aSt, stRow, List.drop_zero, List.take_succ_cons, List.take_zero, List.take_nil, Nat.mul_one, Nat.one_mul, List.cons_append, List.nil_append]
              have hg2 : clGo l s = (St.zero, slErr t) := by rw [← hgo]; simp [clGo, hp, hs]
              rw [hcl, clPut, hg2]
              simp only [hs, if_false, clFree]
              exact Ends.zero (by simp [resL, resOne, tupOf, getN, s_envOf, s_envOf0, s_heapOf, s_heapOf0, s_put1, s_app0, s_app1])
        · obtain rfl : k = l.length := by omega
          have e1 : ¬ ((l.length : Int) < (l.length : Int)) := by omega
          rw [List.drop_length] at hgo
          have hg2 : clGo l s = (t, 0) := by rw [← hgo]; rfl
          simp only [L_cleanF, e1, SS, boxA, cellsOf, foffA, loadA, ldA, idxA, fldA, binA, binVal, isSh, intVal, lenA, slenA, pickA, storeA, setN, getN, fillA, extA, beqA, eqsA, eqL, isnilA, unA, unVal, convA, nilA, sconvA, b2sA, b2sOf, bytesOf, mmA, srcA, appA, sliceA, lohi, mkslA, envA, ↓reduceIte, Nat.reduceEqDiff, Nat.reduceAdd, Nat.reduceMul, reduceCtorEq, Nat.reduceLeDiff, fB, fBools, fBlks, fSegs, aBlk, aSg, aSt, stRow, List.drop_zero, List.take_succ_cons, List.take_zero, List.take_nil, Nat.mul_one, Nat.one_mul, List.cons_append, List.nil_append]
          by_cases hl0 : l.length = 0
          · have e2 : ¬ (0 : Int) < (l.length : Int) := by omega
            simp only [e2, SS, boxA, cellsOf, foffA, loadA, ldA, idxA, fldA, binA, binVal, isSh, intVal, lenA, slenA, pickA, storeA, setN, getN, fillA, extA, beqA, eqsA, eqL, isnilA, unA, unVal, convA, nilA, sconvA, b2sA, b2sOf, bytesOf, mmA, srcA, appA, sliceA, lohi, mkslA, envA, ↓reduceIte, Nat.reduceEqDiff, Nat.reduceAdd, Nat.reduceMul, reduceCtorEq, Nat.reduceLeDiff, fB, fBools, fBlks, fSegs, aBlk, aSg, aSt, stRow, List.drop_zero, List.take_succ_cons, List.take_zero, List.take_nil, Nat.mul_one, Nat.one_mul, List.cons_append, List.nil_append]
            have hc2 : cl s i seq = (frSt t i, frErr t i) := by rw [hcl, clPut, hg2]; simp [clEnd, hl0, clFree]
            rw [hc2]
            refine ⟨_, logFree_A fr t i _ okt, ?_⟩
            simp only [SS, boxA, cellsOf, foffA, loadA, ldA, idxA, fldA, binA, binVal, isSh, intVal, lenA, slenA, pickA, storeA, setN, getN, fillA, extA, beqA, eqsA, eqL, isnilA, unA, unVal, convA, nilA, sconvA, b2sA, b2sOf, bytesOf, mmA, srcA, appA, sliceA, lohi, mkslA, envA, ↓reduceIte, Nat.reduceEqDiff, Nat.reduceAdd, Nat.reduceMul, reduceCtorEq, Nat.reduceLeDiff, fB, fBools, fBlks, fSegs, aBlk, aSg, aSt, stRow, List.drop_zero, List.take_succ_cons, List.take_zero, List.take_nil, Nat.mul_one, Nat.one_mul, List.cons_append, List.nil_append]
            by_cases hfr : frErr t i = 0
            · simp only [hfr, not_true, SS, boxA, cellsOf, foffA, loadA, ldA, idxA, fldA, binA, binVal, isSh, intVal, lenA, slenA, pickA, storeA, setN, getN, fillA, extA, beqA, eqsA, eqL, isnilA, unA, unVal, convA, nilA, sconvA, b2sA, b2sOf, bytesOf, mmA, srcA, appA, sliceA, lohi, mkslA, envA, ↓reduceIte, Nat.reduceEqDiff, Nat.reduceAdd, Nat.reduceMul, reduceCtorEq, Nat.reduceLeDiff, fB, fBools, fBlks, fSegs, aBlk, aSg, aSt, stRow, List.drop_zero, List.take_succ_cons, List.take_zero, List.take_nil, Nat.mul_one, Nat.one_mul, List.cons_append, List.nil_append]
              exact Ends.data (.inr rfl) (by simp [resL, resOne, tupOf, getN, s_envOf, s_envOf0, s_heapOf, s_heapOf0, s_put1, s_app0, s_app1]) ⟨al_aSt (frSt t i), trivial, trivial⟩
            · simp only [hfr, not_false_eq_true, SS, boxA, cellsOf, foffA, loadA, ldA, idxA, fldA, binA, binVal, isSh, intVal, lenA, slenA, pickA, storeA, setN, getN, fillA, extA, beqA, eqsA, eqL, isnilA, unA, unVal, convA, nilA, sconvA, b2sA, b2sOf, bytesOf, mmA, srcA, appA, sliceA, lohi, mkslA, envA, ↓reduceIte, Nat.reduceEqDiff, Nat.reduceAdd, Nat.reduceMul, reduceCtorEq, Nat.reduceLeDiff, fB, fBools, fBlks, fSegs, aBlk, aSg, aSt, stRow, List.drop_zero, List.take_succ_cons, List.take_zero, List.take_nil, Nat.mul_one, Nat.one_mul, List.cons_append, List.nil_append]
              rw [show frSt t i = St.zero from if_neg hfr]
              exact Ends.zero (by simp [resL, resOne, tupOf, getN, s_envOf, s_envOf0, s_heapOf, s_heapOf0, s_put1, s_app0, s_app1])
          · have e2 : (0 : Int) < (l.length : Int) := by omega
            simp only [e2, SS, boxA, cellsOf, foffA, loadA, ldA, idxA, fldA, binA, binVal, isSh, intVal, lenA, slenA, pickA, storeA, setN, getN, fillA, extA, beqA, eqsA, eqL, isnilA, unA, unVal, convA, nilA, sconvA, b2sA, b2sOf, bytesOf, mmA, srcA, appA, sliceA, lohi, mkslA, envA, ↓reduceIte, Nat.reduceEqDiff, Nat.reduceAdd, Nat.reduceMul, reduceCtorEq, Nat.reduceLeDiff, fB, fBools, fBlks, fSegs, aBlk, aSg, aSt, stRow, List.drop_zero, List.take_succ_cons, List.take_zero, List.take_nil, Nat.mul_one, Nat.one_mul, List.cons_append, List.nil_append]
            refine ⟨_, logSeal_A fr t _ okt, ?_⟩
            simp only [SS, boxA, cellsOf, foffA, loadA, ldA, idxA, fldA, binA, binVal, isSh, intVal, lenA, slenA, pickA, storeA, setN, getN, fillA, extA, beqA, eqsA, eqL, isnilA, unA, unVal, convA, nilA, sconvA, b2sA, b2sOf, bytesOf, mmA, srcA, appA, sliceA, lohi, mkslA, envA, ↓reduceIte, Nat.reduceEqDiff, Nat.reduceAdd, Nat.reduceMul, reduceCtorEq, Nat.reduceLeDiff, fB, fBools, fBlks, fSegs, aBlk, aSg, aSt, stRow, List.drop_zero, List.take_succ_cons, List.take_zero, List.take_nil, Nat.mul_one, Nat.one_mul, List.cons_append, List.nil_append]
            by_cases hs : slErr t = 0
            · simp only [hs, not_true, SS, boxA, cellsOf, foffA, loadA, ldA, idxA, fldA, binA, binVal, isSh, intVal, lenA, slenA, pickA, storeA, setN, getN, fillA, extA, beqA, eqsA, eqL, isnilA, unA, unVal, convA, nilA, sconvA, b2sA, b2sOf, bytesOf, mmA, srcA, appA, sliceA, lohi, mkslA, envA, ↓reduceIte, Nat.reduceEqDiff, Nat.reduceAdd, Nat.reduceMul, reduceCtorEq, Nat.reduceLeDiff, fB, fBools, fBlks, fSegs, aBlk, aSg, aSt, stRow, List.drop_zero, List.take_succ_cons, List.take_zero, List.take_nil, Nat.mul_one, Nat.one_mul, List.cons_append, List.nil_append]
              have hc2 : cl s i seq = (frSt (slSt t) i, frErr (slSt t) i) := by rw [hcl, clPut, hg2]; simp [clEnd, hl0, hs, clFree]
              rw [hc2]
              refine ⟨_, logFree_A true (slSt t) i _ (okSt_seal okt), ?_⟩
              simp only [SS, boxA, cellsOf, foffA, loadA, ldA, idxA, fldA, binA, binVal, isSh, intVal, lenA, slenA, pickA, storeA, setN, getN, fillA, extA, beqA, eqsA, eqL, isnilA, unA, unVal, convA, nilA, sconvA, b2sA, b2sOf, bytesOf, mmA, srcA, appA, sliceA, lohi, mkslA, envA, ↓reduceIte, Nat.reduceEqDiff, Nat.reduceAdd, Nat.reduceMul, reduceCtorEq, Nat.reduceLeDiff, fB, fBools, fBlks, fSegs, aBlk, aSg, aSt, stRow, List.drop_zero, List.take_succ_cons, List.take_zero, List.take_nil, Nat.mul_one, Nat.one_mul, List.cons_append, List.nil_append]
              by_cases hfr : frErr (slSt t) i = 0
              · simp only [hfr, not_true, SS, boxA, cellsOf, foffA, loadA, ldA, idxA, fldA, binA, binVal, isSh, intVal, lenA, slenA, pickA, storeA, setN, getN, fillA, extA, beqA, eqsA, eqL, isnilA, unA, unVal, convA, nilA, sconvA, b2sA, b2sOf, bytesOf, mmA, srcA, appA, sliceA, lohi, mkslA, envA, ↓reduceIte, Nat.reduceEqDiff, Nat.reduceAdd, Nat.reduceMul, reduceCtorEq, Nat.reduceLeDiff, fB, fBools, fBlks, fSegs, aBlk, aSg, aSt, stRow, List.drop_zero, List.take_succ_cons, List.take_zero, List.take_nil, Nat.mul_one, Nat.one_mul, List.cons_append, List.nil_append]
                exact Ends.data (.inr rfl) (by simp [resL, resOne, tupOf, getN, s_envOf, s_envOf0, s_heapOf, s_heapOf0, s_put1, s_app0, s_app1]) ⟨al_aSt (frSt (slSt t) i), trivial, trivial⟩
              · simp only [hfr, not_false_eq_true, SS, boxA, cellsOf, foffA, loadA, ldA, idxA, fldA, binA, binVal, isSh, intVal, lenA, slenA, pickA, storeA, setN, getN, fillA, extA, beqA, eqsA, eqL, isnilA, unA, unVal, convA, nilA, sconvA, b2sA, b2sOf, bytesOf, mmA, srcA, appA, sliceA, lohi, mkslA, envA, ↓reduceIte, Nat.reduceEqDiff, Nat.reduceAdd, Nat.reduceMul, reduceCtorEq, Nat.reduceLeDiff, fB, fBools, fBlks, fSegs, aBlk, aSg, aSt, stRow, List.drop_zero, List.take_succ_cons, List.take_zero, List.take_nil, Nat.mul_one, Nat.one_mul, List.cons_append, List.nil_append]
                rw [show frSt (slSt t) i = St.zero from if_neg hfr]
                exact Ends.zero (by simp [resL, resOne, tupOf, getN, s_envOf, s_envOf0, s_heapOf, s_heapOf0, s_put1, s_app0, s_app1])
            · simp only [hs, not_false_eq_true, SS, boxA, cellsOf, foffA, loadA, ldA, idxA, fldA, binA, binVal, isSh, intVal, lenA, slenA, pickA, storeA, setN, getN, fillA, extA, beqA, eqsA, eqL, isnilA, unA, unVal, convA, nilA, sconvA, b2sA, b2sOf, bytesOf, mmA, srcA, appA, sliceA, lohi, mkslA, envA, ↓reduceIte, Nat.reduceEqDiff, Nat.reduceAdd, Nat.reduceMul, reduceCtorEq, Nat.reduceLeDiff, fB, fBools, fBlks, fSegs, aBlk, aSg, aSt, stRow, List.drop_zero, List.take_succ_cons, List.take_zero, List.take_nil, Nat.mul_one, Nat.one_mul, List.cons_append, List.nil_append]
              have hc2 : cl s i seq = (St.zero, slErr t) := by rw [hcl, clPut, hg2]; simp [clEnd, hl0, hs, clFree]
              rw [hc2]
              exact Ends.zero (by simp [resL, resOne, tupOf, getN, s_envOf, s_envOf0, s_heapOf, s_heapOf0, s_put1, s_app0, s_app1])
    · rw [if_neg hq] at hcl
      simp only [hq, not_false_eq_true, SS, boxA, cellsOf, foffA, loadA, ldA, idxA, fldA, binA, binVal, isSh, intVal, lenA, slenA, pickA, storeA, setN, getN, fillA, extA, beqA, eqsA, eqL, isnilA, unA, unVal, convA, nilA, sconvA, b2sA, b2sOf, bytesOf, mmA, srcA, appA, sliceA, lohi, mkslA, envA, ↓reduceIte, Nat.reduceEqDiff, Nat.reduceAdd, Nat.reduceMul, reduceCtorEq, Nat.reduceLeDiff, fB, fBools, fBlks, fSegs, aBlk, aSg, aSt, stRow, List.drop_zero, List.take_succ_cons, List.take_zero, List.take_nil, Nat.mul_one, Nat.one_mul, List.cons_append, List.nil_append]
      refine ⟨by rfl, ?_⟩
      rw [hcl]
      exact Ends.zero (by simp [resL, resOne, tupOf, getN, s_envOf, s_envOf0, s_heapOf, s_heapOf0, s_put1, s_app0, s_app1])
  · have hcl : cl s slot seq = (St.zero, liveErr s slot) := by unfold cl; rw [if_neg hu]
    simp only [hu, not_false_eq_true, SS, boxA, cellsOf, foffA, loadA, ldA, idxA, fldA, binA, binVal, isSh, intVal, lenA, slenA, pickA, storeA, setN, getN, fillA, extA, beqA, eqsA, eqL, isnilA, unA, unVal, convA, nilA, sconvA, b2sA, b2sOf, bytesOf, mmA, srcA, appA, sliceA, lohi, mkslA, envA, ↓reduceIte, Nat.reduceEqDiff, Nat.reduceAdd, Nat.reduceMul, reduceCtorEq, Nat.reduceLeDiff, fB, fBools, fBlks, fSegs, aBlk, aSg, aSt, stRow, List.drop_zero, List.take_succ_cons, List.take_zero, List.take_nil, Nat.mul_one, Nat.one_mul, List.cons_append, List.nil_append]
    rw [hcl]
    exact Ends.zero (by simp [resL, resOne, tupOf, getN, s_envOf, s_envOf0, s_heapOf, s_heapOf0, s_put1, s_app0, s_app1])
end Go.Proofs.Ytfoeddmbhmfjcaa
/- Functions of the program, compiled. -/
namespace Go.Proofs.Ytfoeddmbhmfjcaa
set_option maxRecDepth 100000
def rest_7 : AC :=
(.seq (.seq (.reg false [⟨some 10, .mv (.const (.int .i64 (0))), none, [], []⟩] [5, 6, 7, 8, 9, 10])
(.block 0 (.loop (.seq (.seq (.reg false [⟨some 29, .mv (.tmp 10), none, [10], []⟩,
    ⟨some 30, .foff 0 (.tmp 5), none, [5], []⟩,
    ⟨some 31, .load false 1 (.tmp 30), none, [30], []⟩,
    ⟨some 32, .len false (.tmp 31), none, [31], []⟩,
    ⟨some 33, .bin .lss (.tmp 29) (.tmp 32), none, [29, 32], []⟩] [5, 6, 7, 8, 9, 10, 33])
(.cond (.tmp 33)
.skip
(.exit 0)))
(.seq (.block 1 (.seq (.reg false [⟨some 11, .mv (.const (.int .i64 (0))), none, [], []⟩] [5, 6, 7, 8, 9, 10, 11])
(.block 2 (.loop (.seq (.seq (.reg false [⟨some 36, .mv (.tmp 11), none, [11], []⟩,
    ⟨some 37, .foff 0 (.tmp 5), none, [5], []⟩,
    ⟨some 38, .load false 1 (.tmp 37), none, [37], []⟩,
    ⟨some 39, .mv (.tmp 10), none, [10], []⟩,
    ⟨some 40, .idx 2 (.tmp 38) (.tmp 39), none, [38, 39], []⟩,
    ⟨some 41, .foff 1 (.tmp 40), none, [40], []⟩,
    ⟨some 42, .load false 1 (.tmp 41), none, [41], []⟩,
    ⟨some 43, .len false (.tmp 42), none, [42], []⟩,
    ⟨some 44, .bin .lss (.tmp 36) (.tmp 43), none, [36, 43], []⟩] [5, 6, 7, 8, 9, 10, 11, 44])
(.cond (.tmp 44)
.skip
(.exit 2)))
(.seq (.block 3 (.reg false [⟨some 47, .foff 0 (.tmp 5), none, [5], []⟩,
    ⟨some 48, .load false 1 (.tmp 47), none, [47], []⟩,
    ⟨some 49, .mv (.tmp 10), none, [10], []⟩,
    ⟨some 50, .idx 2 (.tmp 48) (.tmp 49), none, [48, 49], []⟩,
    ⟨some 51, .foff 1 (.tmp 50), none, [50], []⟩,
    ⟨some 52, .load false 1 (.tmp 51), none, [51], []⟩,
    ⟨some 53, .mv (.tmp 11), none, [11], []⟩,
    ⟨some 54, .idx 3 (.tmp 52) (.tmp 53), none, [52, 53], []⟩,
    ⟨some 55, .foff 2 (.tmp 54), none, [54], []⟩,
    ⟨some 56, .load false 1 (.tmp 55), none, [55], []⟩,
    ⟨some 57, .call 32 [(.tmp 56)], none, [56], []⟩] [5, 6, 7, 8, 9, 10, 11]))
(.reg false [⟨some 45, .mv (.tmp 11), none, [11], []⟩,
    ⟨some 46, .bin .add (.tmp 45) (.const (.int .i64 (1))), none, [45], []⟩,
    ⟨some 11, .mv (.tmp 46), none, [46], []⟩] [5, 6, 7, 8, 9, 10, 11])))))))
(.reg false [⟨some 34, .mv (.tmp 10), none, [10], []⟩,
    ⟨some 35, .bin .add (.tmp 34) (.const (.int .i64 (1))), none, [34], []⟩,
    ⟨some 10, .mv (.tmp 35), none, [35], []⟩] [5, 6, 7, 8, 9, 10]))))))
(.seq (.seq (.reg false [⟨some 12, .mv (.const (.int .i64 (0))), none, [], []⟩] [5, 6, 7, 8, 9, 12])
(.block 4 (.loop (.seq (.seq (.reg false [⟨some 58, .mv (.tmp 12), none, [12], []⟩,
    ⟨some 59, .foff 2 (.tmp 5), none, [5], []⟩,
    ⟨some 60, .load false 1 (.tmp 59), none, [59], []⟩,
    ⟨some 61, .len false (.tmp 60), none, [60], []⟩,
    ⟨some 62, .bin .lss (.tmp 58) (.tmp 61), none, [58, 61], []⟩] [5, 6, 7, 8, 9, 12, 62])
(.cond (.tmp 62)
.skip
(.exit 4)))
(.seq (.block 5 (.reg false [⟨some 65, .foff 2 (.tmp 5), none, [5], []⟩,
    ⟨some 66, .load false 1 (.tmp 65), none, [65], []⟩,
    ⟨some 67, .mv (.tmp 12), none, [12], []⟩,
    ⟨some 68, .idx 3 (.tmp 66) (.tmp 67), none, [66, 67], []⟩,
    ⟨some 69, .foff 2 (.tmp 68), none, [68], []⟩,
    ⟨some 70, .load false 1 (.tmp 69), none, [69], []⟩,
    ⟨some 71, .call 32 [(.tmp 70)], none, [70], []⟩] [5, 6, 7, 8, 9, 12]))
(.reg false [⟨some 63, .mv (.tmp 12), none, [12], []⟩,
    ⟨some 64, .bin .add (.tmp 63) (.const (.int .i64 (1))), none, [63], []⟩,
    ⟨some 12, .mv (.tmp 64), none, [64], []⟩] [5, 6, 7, 8, 9, 12]))))))
(.seq (.reg false [⟨some 72, .mv (.tmp 7), none, [7], []⟩,
    ⟨some 73, .call 17 [(.tmp 72)], none, [72], []⟩,
    ⟨some 74, .mv (.tmp 9), none, [9], []⟩,
    ⟨some 75, .bin .eql (.tmp 73) (.tmp 74), none, [73, 74], []⟩,
    ⟨some 76, .mv (.tmp 75), none, [75], []⟩,
    ⟨some 77, .load true 4 (.tmp 6), some (76, true), [6, 76], []⟩,
    ⟨some 78, .load true 4 (.tmp 8), some (76, true), [8, 76], []⟩,
    ⟨some 79, .call 25 [(.tmp 77), (.tmp 78)], some (76, true), [77, 78, 76], []⟩,
    ⟨some 80, .bin .eql (.tmp 79) (.const (.int .i64 (0))), some (76, true), [79, 76], []⟩,
    ⟨some 81, .pick (.tmp 76) (.tmp 80) (.const (.bool false)), none, [76, 80], []⟩,
    ⟨some 4, .mv (.tmp 81), none, [81], []⟩] [4])
.ret)))
def r4_7 : AC :=
(.reg false [⟨some 24, .load true 4 (.tmp 2), none, [2], []⟩,
    ⟨some 25, .load true 2 (.tmp 3), none, [3], []⟩,
    ⟨some 26, .call 35 [(.tmp 24), (.tmp 25)], none, [24, 25], []⟩,
    ⟨some 23, .mv (.tmp 26), none, [26], []⟩,
    ⟨some 27, .ext 0 (.tmp 23), none, [23], []⟩,
    ⟨some 28, .ext 1 (.tmp 23), none, [23], []⟩,
    ⟨some 8, .new 32 [(.slice none 0 0), (.slice none 0 0), (.slice none 0 0), (.int .i64 (0))], none, [], []⟩,
    ⟨none, .store 4 (.tmp 8) (.tmp 27), none, [8, 27], []⟩,
    ⟨some 9, .mv (.tmp 28), none, [28], []⟩] [5, 6, 7, 8, 9])
def r3_7 : AC :=
(.reg false [⟨some 18, .load true 4 (.tmp 5), none, [5], []⟩,
    ⟨some 19, .load true 2 (.tmp 3), none, [3], []⟩,
    ⟨some 20, .call 33 [(.tmp 18), (.tmp 19)], none, [18, 19], []⟩,
    ⟨some 17, .mv (.tmp 20), none, [20], []⟩,
    ⟨some 21, .ext 0 (.tmp 17), none, [17], []⟩,
    ⟨some 22, .ext 1 (.tmp 17), none, [17], []⟩,
    ⟨some 6, .new 36 [(.slice none 0 0), (.slice none 0 0), (.slice none 0 0), (.int .i64 (0))], none, [], []⟩,
    ⟨none, .store 4 (.tmp 6) (.tmp 21), none, [6, 21], []⟩,
    ⟨some 7, .mv (.tmp 22), none, [22], []⟩] [2, 3, 5, 6, 7])
def r2_7 : AC :=
(.reg false [⟨some 15, .load true 4 (.tmp 2), none, [2], []⟩,
    ⟨some 16, .call 18 [(.tmp 15)], none, [15], []⟩,
    ⟨some 5, .new 36 [(.slice none 0 0), (.slice none 0 0), (.slice none 0 0), (.int .i64 (0))], none, [], []⟩,
    ⟨none, .store 4 (.tmp 5) (.tmp 16), none, [5, 16], []⟩] [2, 3, 5])
def r1_7 : AC :=
(.seq (.reg false [⟨some 13, .call 15 [], none, [], []⟩,
    ⟨some 14, .un .not (.tmp 13), none, [13], []⟩] [2, 3, 14])
(.cond (.tmp 14)
(.seq (.reg false [⟨some 4, .mv (.const (.bool false)), none, [], []⟩] [4])
.ret)
.skip))
def r0_7 : AC :=
(.reg false [⟨some 2, .box 32 (.tmp 0), none, [0], []⟩,
    ⟨some 3, .box 71 (.tmp 1), none, [1], []⟩,
    ⟨some 4, .mv (.const (.bool false)), none, [], []⟩] [2, 3])
def ac_7 : AC :=
(.seq (.weak r0_7)
(.seq (.weak r1_7)
(.seq (.weak r2_7)
(.seq (.weak r3_7)
(.seq (.weak r4_7)
(.weak rest_7))))))
theorem ok_7 : FnOk Try.prog 7 82 ac_7 [.tmp 4] := ⟨Try.f7, Try.func7, by kernel_rfl, by kernel_rfl, by kernel_rfl, by kernel_rfl, by kernel_rfl⟩
end Go.Proofs.Ytfoeddmbhmfjcaa
/- CleanOwn: all is spoilt that was handed in; what was answered stays. -/
namespace Go.Proofs.Ytfoeddmbhmfjcaa
open Go.RowKit
set_option maxRecDepth 100000
abbrev P_h (s a : St) : List (Nat × AObj) := [(0, .row false 36 [wSegs s.segs, wBools s.held, wBlks s.opn, .v (.int .i64 s.next)]), (1, .row false 36 (cSt true a)), (2, .row false 32 (cSt true a))]
abbrev P_0 (s a : St) (e : Int) : ASt := ⟨envOf [(5, .op 0 0), (6, .op 1 0), (7, .v (.int .i64 e)), (8, .op 2 0), (9, .v (.int .i64 e))], heapOf (P_h s a), 3⟩
abbrev P_1 (s a : St) (e : Int) (k : Nat) : ASt := ⟨envOf [(5, .op 0 0), (6, .op 1 0), (7, .v (.int .i64 e)), (8, .op 2 0), (9, .v (.int .i64 e)), (10, .v (.int .i64 k))], heapOf (P_h s a), 3⟩
abbrev P_2 (s a : St) (e : Int) (k j : Nat) : ASt := ⟨envOf [(5, .op 0 0), (6, .op 1 0), (7, .v (.int .i64 e)), (8, .op 2 0), (9, .v (.int .i64 e)), (10, .v (.int .i64 k)), (11, .v (.int .i64 j))], heapOf (P_h s a), 3⟩
abbrev P_4 (s a : St) (e : Int) (k : Nat) : ASt := ⟨envOf [(5, .op 0 0), (6, .op 1 0), (7, .v (.int .i64 e)), (8, .op 2 0), (9, .v (.int .i64 e)), (12, .v (.int .i64 k))], heapOf (P_h s a), 3⟩
set_option maxHeartbeats 4000000 in
theorem rest_cown (s a : St) (e : Int) (hs : SZ s) (ha : SZ a) : wpC Try.prog 82 0 rest_7 (P_0 s a e) fun x t => (x = .normal ∧ False ∧ Weak 82 0 t (⟨envOf [], heapOf [], 1⟩ : ASt)) ∨ (x = .ret ∧ True ∧ Weak 82 0 t (⟨envOf [(4, .v (.bool true))], heapOf [], 1⟩ : ASt)) := by
  simp only [rest_7, P_0, P_h, cSt, wSegs, wBools, wBlks, SS, boxA, cellsOf, foffA, loadA, ldA, idxA, fldA, binA, binVal, isSh, intVal, lenA, slenA, pickA, storeA, setN, getN, fillA, extA, beqA, eqsA, eqL, isnilA, unA, unVal, convA, nilA, sconvA, b2sA, b2sOf, bytesOf, mmA, srcA, appA, sliceA, lohi, mkslA, envA, ↓reduceIte, Nat.reduceEqDiff, Nat.reduceAdd, Nat.reduceMul, reduceCtorEq, Nat.reduceLeDiff, fB, fBools, fBlks, fSegs, aBlk, aSg, aSt, stRow, List.drop_zero, List.take_succ_cons, List.take_zero, List.take_nil, Nat.mul_one, Nat.one_mul, List.cons_append, List.nil_append]
  refine AWc.family (P_1 s a e) (fun k => k ≤ s.segs.length) (fun k => s.segs.length - k) 0 (Nat.zero_le _) ?_ ?_
  · refine Weak.calc [(0, 0), (1, 1), (2, 2)] (by decide) ?_ ?_ <;> simp [tk_B, tk_Bools, tk_Blks, tk_Segs, AlL_append, renL_append, okL, okH, rowIs, okV, okHV, rowVt, vtL, okF, okHF, rowFz, fzL, fzV, fzOne, nilLike, oldLike, rn, s_envOf, s_envOf0, s_heapOf, s_heapOf0, s_put, s_put0, s_put1, s_app0, s_app1, Al, AlL, ren, renL, al_B, al_Bools, al_Blks, al_Segs, ren_B, ren_Bools, ren_Blks, ren_Segs, fB, fBools, fBlks, fSegs, wSegs, wBools, wBlks, al_weSegs, ren_weSegs, al_weBlks, ren_weBlks]
  · intro k hk
    by_cases hlt : k < s.segs.length
    · obtain ⟨q, hq, e1, e0⟩ := lt_at hlt
      obtain ⟨g0, g1⟩ := get_weSegs hq
      have hsl := hs.segs
      have hbl := hs.seg q (List.mem_of_getElem? hq)
      simp only [P_1, P_h, cSt, wSegs, wBools, wBlks, g0, g1, e1, e0, len_weSegs, SS, boxA, cellsOf, foffA, loadA, ldA, idxA, fldA, binA, binVal, isSh, intVal, lenA, slenA, pickA, storeA, setN, getN, fillA, extA, beqA, eqsA, eqL, isnilA, unA, unVal, convA, nilA, sconvA, b2sA, b2sOf, bytesOf, mmA, srcA, appA, sliceA, lohi, mkslA, envA, ↓reduceIte, Nat.reduceEqDiff, Nat.reduceAdd, Nat.reduceMul, reduceCtorEq, Nat.reduceLeDiff, fB, fBools, fBlks, fSegs, aBlk, aSg, aSt, stRow, List.drop_zero, List.take_succ_cons, List.take_zero, List.take_nil, Nat.mul_one, Nat.one_mul, List.cons_append, List.nil_append]
      refine AWc.family (P_2 s a e k) (fun j => j ≤ q.blocks.length) (fun j => q.blocks.length - j) 0 (Nat.zero_le _) ?_ ?_
      · refine Weak.calc [(0, 0), (1, 1), (2, 2)] (by decide) ?_ ?_ <;> simp [tk_B, tk_Bools, tk_Blks, tk_Segs, AlL_append, renL_append, okL, okH, rowIs, okV, okHV, rowVt, vtL, okF, okHF, rowFz, fzL, fzV, fzOne, nilLike, oldLike, rn, s_envOf, s_envOf0, s_heapOf, s_heapOf0, s_put, s_put0, s_put1, s_app0, s_app1, Al, AlL, ren, renL, al_B, al_Bools, al_Blks, al_Segs, ren_B, ren_Bools, ren_Blks, ren_Segs, fB, fBools, fBlks, fSegs, wSegs, wBools, wBlks, al_weSegs, ren_weSegs, al_weBlks, ren_weBlks]
      · intro j hj
        by_cases hjl : j < q.blocks.length
        · obtain ⟨x, hx, f1, f0⟩ := lt_at hjl
          obtain ⟨b0, b1, b2⟩ := get_weBlks hx
          have b2' : (weBlks q.blocks)[j * 3 + 1 + 1]? = some (.ws .u8 x.data.length) := b2
          simp only [P_2, P_h, cSt, wSegs, wBools, wBlks, g0, g1, e1, e0, b0, b1, b2, b2', f1, f0, len_weSegs, len_weBlks, SS, boxA, cellsOf, foffA, loadA, ldA, idxA, fldA, binA, binVal, isSh, intVal, lenA, slenA, pickA, storeA, setN, getN, fillA, extA, beqA, eqsA, eqL, isnilA, unA, unVal, convA, nilA, sconvA, b2sA, b2sOf, bytesOf, mmA, srcA, appA, sliceA, lohi, mkslA, envA, ↓reduceIte, Nat.reduceEqDiff, Nat.reduceAdd, Nat.reduceMul, reduceCtorEq, Nat.reduceLeDiff, fB, fBools, fBlks, fSegs, aBlk, aSg, aSt, stRow, List.drop_zero, List.take_succ_cons, List.take_zero, List.take_nil, Nat.mul_one, Nat.one_mul, List.cons_append, List.nil_append]
          refine ⟨_, spoil_spec x.data.length _ (by have := hs.segD q (List.mem_of_getElem? hq) x (List.mem_of_getElem? hx); omega), ?_⟩
          simp only [SS, boxA, cellsOf, foffA, loadA, ldA, idxA, fldA, binA, binVal, isSh, intVal, lenA, slenA, pickA, storeA, setN, getN, fillA, extA, beqA, eqsA, eqL, isnilA, unA, unVal, convA, nilA, sconvA, b2sA, b2sOf, bytesOf, mmA, srcA, appA, sliceA, lohi, mkslA, envA, ↓reduceIte, Nat.reduceEqDiff, Nat.reduceAdd, Nat.reduceMul, reduceCtorEq, Nat.reduceLeDiff, fB, fBools, fBlks, fSegs, aBlk, aSg, aSt, stRow, List.drop_zero, List.take_succ_cons, List.take_zero, List.take_nil, Nat.mul_one, Nat.one_mul, List.cons_append, List.nil_append]
          refine famC_next (j + 1) (by omega) (by omega) ?_
          refine Weak.calc [(0, 0), (1, 1), (2, 2)] (by decide) ?_ ?_ <;> simp [tk_B, tk_Bools, tk_Blks, tk_Segs, AlL_append, renL_append, okL, okH, rowIs, okV, okHV, rowVt, vtL, okF, okHF, rowFz, fzL, fzV, fzOne, nilLike, oldLike, rn, s_envOf, s_envOf0, s_heapOf, s_heapOf0, s_put, s_put0, s_put1, s_app0, s_app1, Al, AlL, ren, renL, al_B, al_Bools, al_Blks, al_Segs, ren_B, ren_Bools, ren_Blks, ren_Segs, fB, fBools, fBlks, fSegs, wSegs, wBools, wBlks, al_weSegs, ren_weSegs, al_weBlks, ren_weBlks, wrap64 (x := (j : Int) + 1) (by omega)]
        · have f1 : ¬ ((j : Int) < (q.blocks.length : Int)) := by omega
          simp only [P_2, P_h, cSt, wSegs, wBools, wBlks, g0, g1, e1, e0, f1, len_weSegs, SS, boxA, cellsOf, foffA, loadA, ldA, idxA, fldA, binA, binVal, isSh, intVal, lenA, slenA, pickA, storeA, setN, getN, fillA, extA, beqA, eqsA, eqL, isnilA, unA, unVal, convA, nilA, sconvA, b2sA, b2sOf, bytesOf, mmA, srcA, appA, sliceA, lohi, mkslA, envA, ↓reduceIte, Nat.reduceEqDiff, Nat.reduceAdd, Nat.reduceMul, reduceCtorEq, Nat.reduceLeDiff, fB, fBools, fBlks, fSegs, aBlk, aSg, aSt, stRow, List.drop_zero, List.take_succ_cons, List.take_zero, List.take_nil, Nat.mul_one, Nat.one_mul, List.cons_append, List.nil_append]
          refine famC_next (k + 1) (by omega) (by omega) ?_
          refine Weak.calc [(0, 0), (1, 1), (2, 2)] (by decide) ?_ ?_ <;> simp [tk_B, tk_Bools, tk_Blks, tk_Segs, AlL_append, renL_append, okL, okH, rowIs, okV, okHV, rowVt, vtL, okF, okHF, rowFz, fzL, fzV, fzOne, nilLike, oldLike, rn, s_envOf, s_envOf0, s_heapOf, s_heapOf0, s_put, s_put0, s_put1, s_app0, s_app1, Al, AlL, ren, renL, al_B, al_Bools, al_Blks, al_Segs, ren_B, ren_Bools, ren_Blks, ren_Segs, fB, fBools, fBlks, fSegs, wSegs, wBools, wBlks, al_weSegs, ren_weSegs, al_weBlks, ren_weBlks, wrap64 (x := (k : Int) + 1) (by omega)]
    · have e1 : ¬ ((k : Int) < (s.segs.length : Int)) := by omega
      simp only [P_1, P_h, cSt, wSegs, wBools, wBlks, e1, SS, boxA, cellsOf, foffA, loadA, ldA, idxA, fldA, binA, binVal, isSh, intVal, lenA, slenA, pickA, storeA, setN, getN, fillA, extA, beqA, eqsA, eqL, isnilA, unA, unVal, convA, nilA, sconvA, b2sA, b2sOf, bytesOf, mmA, srcA, appA, sliceA, lohi, mkslA, envA, ↓reduceIte, Nat.reduceEqDiff, Nat.reduceAdd, Nat.reduceMul, reduceCtorEq, Nat.reduceLeDiff, fB, fBools, fBlks, fSegs, aBlk, aSg, aSt, stRow, List.drop_zero, List.take_succ_cons, List.take_zero, List.take_nil, Nat.mul_one, Nat.one_mul, List.cons_append, List.nil_append]
      refine AWc.family (P_4 s a e) (fun k => k ≤ s.opn.length) (fun k => s.opn.length - k) 0 (Nat.zero_le _) ?_ ?_
      · refine Weak.calc [(0, 0), (1, 1), (2, 2)] (by decide) ?_ ?_ <;> simp [tk_B, tk_Bools, tk_Blks, tk_Segs, AlL_append, renL_append, okL, okH, rowIs, okV, okHV, rowVt, vtL, okF, okHF, rowFz, fzL, fzV, fzOne, nilLike, oldLike, rn, s_envOf, s_envOf0, s_heapOf, s_heapOf0, s_put, s_put0, s_put1, s_app0, s_app1, Al, AlL, ren, renL, al_B, al_Bools, al_Blks, al_Segs, ren_B, ren_Bools, ren_Blks, ren_Segs, fB, fBools, fBlks, fSegs, wSegs, wBools, wBlks, al_weSegs, ren_weSegs, al_weBlks, ren_weBlks]
      · intro j hj
        have hol := hs.opn
        by_cases hjl : j < s.opn.length
        · obtain ⟨x, hx, f1, f0⟩ := lt_at hjl
          obtain ⟨b0, b1, b2⟩ := get_weBlks hx
          have b2' : (weBlks s.opn)[j * 3 + 1 + 1]? = some (.ws .u8 x.data.length) := b2
          simp only [P_4, P_h, cSt, wSegs, wBools, wBlks, b0, b1, b2, b2', f1, f0, len_weBlks, SS, boxA, cellsOf, foffA, loadA, ldA, idxA, fldA, binA, binVal, isSh, intVal, lenA, slenA, pickA, storeA, setN, getN, fillA, extA, beqA, eqsA, eqL, isnilA, unA, unVal, convA, nilA, sconvA, b2sA, b2sOf, bytesOf, mmA, srcA, appA, sliceA, lohi, mkslA, envA, ↓reduceIte, Nat.reduceEqDiff, Nat.reduceAdd, Nat.reduceMul, reduceCtorEq, Nat.reduceLeDiff, fB, fBools, fBlks, fSegs, aBlk, aSg, aSt, stRow, List.drop_zero, List.take_succ_cons, List.take_zero, List.take_nil, Nat.mul_one, Nat.one_mul, List.cons_append, List.nil_append]
          refine ⟨_, spoil_spec x.data.length _ (by have := hs.opnD x (List.mem_of_getElem? hx); omega), ?_⟩
          simp only [SS, boxA, cellsOf, foffA, loadA, ldA, idxA, fldA, binA, binVal, isSh, intVal, lenA, slenA, pickA, storeA, setN, getN, fillA, extA, beqA, eqsA, eqL, isnilA, unA, unVal, convA, nilA, sconvA, b2sA, b2sOf, bytesOf, mmA, srcA, appA, sliceA, lohi, mkslA, envA, ↓reduceIte, Nat.reduceEqDiff, Nat.reduceAdd, Nat.reduceMul, reduceCtorEq, Nat.reduceLeDiff, fB, fBools, fBlks, fSegs, aBlk, aSg, aSt, stRow, List.drop_zero, List.take_succ_cons, List.take_zero, List.take_nil, Nat.mul_one, Nat.one_mul, List.cons_append, List.nil_append]
          refine famC_next (j + 1) (by omega) (by omega) ?_
          refine Weak.calc [(0, 0), (1, 1), (2, 2)] (by decide) ?_ ?_ <;> simp [tk_B, tk_Bools, tk_Blks, tk_Segs, AlL_append, renL_append, okL, okH, rowIs, okV, okHV, rowVt, vtL, okF, okHF, rowFz, fzL, fzV, fzOne, nilLike, oldLike, rn, s_envOf, s_envOf0, s_heapOf, s_heapOf0, s_put, s_put0, s_put1, s_app0, s_app1, Al, AlL, ren, renL, al_B, al_Bools, al_Blks, al_Segs, ren_B, ren_Bools, ren_Blks, ren_Segs, fB, fBools, fBlks, fSegs, wSegs, wBools, wBlks, al_weSegs, ren_weSegs, al_weBlks, ren_weBlks, wrap64 (x := (j : Int) + 1) (by omega)]
        · have f1 : ¬ ((j : Int) < (s.opn.length : Int)) := by omega
          simp only [P_4, P_h, cSt, wSegs, wBools, wBlks, f1, SS, boxA, cellsOf, foffA, loadA, ldA, idxA, fldA, binA, binVal, isSh, intVal, lenA, slenA, pickA, storeA, setN, getN, fillA, extA, beqA, eqsA, eqL, isnilA, unA, unVal, convA, nilA, sconvA, b2sA, b2sOf, bytesOf, mmA, srcA, appA, sliceA, lohi, mkslA, envA, ↓reduceIte, Nat.reduceEqDiff, Nat.reduceAdd, Nat.reduceMul, reduceCtorEq, Nat.reduceLeDiff, fB, fBools, fBlks, fSegs, aBlk, aSg, aSt, stRow, List.drop_zero, List.take_succ_cons, List.take_zero, List.take_nil, Nat.mul_one, Nat.one_mul, List.cons_append, List.nil_append]
          refine ⟨_, num16_spec e _, ?_⟩
          simp only [SS, boxA, cellsOf, foffA, loadA, ldA, idxA, fldA, binA, binVal, isSh, intVal, lenA, slenA, pickA, storeA, setN, getN, fillA, extA, beqA, eqsA, eqL, isnilA, unA, unVal, convA, nilA, sconvA, b2sA, b2sOf, bytesOf, mmA, srcA, appA, sliceA, lohi, mkslA, envA, ↓reduceIte, Nat.reduceEqDiff, Nat.reduceAdd, Nat.reduceMul, reduceCtorEq, Nat.reduceLeDiff, fB, fBools, fBlks, fSegs, aBlk, aSg, aSt, stRow, List.drop_zero, List.take_succ_cons, List.take_zero, List.take_nil, Nat.mul_one, Nat.one_mul, List.cons_append, List.nil_append]
          refine ⟨_, alikeSt_spec true true a a _ ha, ?_⟩
          simp only [no01, SS, boxA, cellsOf, foffA, loadA, ldA, idxA, fldA, binA, binVal, isSh, intVal, lenA, slenA, pickA, storeA, setN, getN, fillA, extA, beqA, eqsA, eqL, isnilA, unA, unVal, convA, nilA, sconvA, b2sA, b2sOf, bytesOf, mmA, srcA, appA, sliceA, lohi, mkslA, envA, ↓reduceIte, Nat.reduceEqDiff, Nat.reduceAdd, Nat.reduceMul, reduceCtorEq, Nat.reduceLeDiff, fB, fBools, fBlks, fSegs, aBlk, aSg, aSt, stRow, List.drop_zero, List.take_succ_cons, List.take_zero, List.take_nil, Nat.mul_one, Nat.one_mul, List.cons_append, List.nil_append]
          refine .inr ?_
          refine Weak.calc [] (by decide) ?_ ?_ <;> simp [tk_B, tk_Bools, tk_Blks, tk_Segs, AlL_append, renL_append, okL, okH, rowIs, okV, okHV, rowVt, vtL, okF, okHF, rowFz, fzL, fzV, fzOne, nilLike, oldLike, rn, s_envOf, s_envOf0, s_heapOf, s_heapOf0, s_put, s_put0, s_put1, s_app0, s_app1, Al, AlL, ren, renL, al_B, al_Bools, al_Blks, al_Segs, ren_B, ren_Bools, ren_Blks, ren_Segs, fB, fBools, fBlks, fSegs]
abbrev C_1 (s : St) (p q : Int) : ASt := ⟨envOf [(2, .op 0 0), (3, .op 1 0)], heapOf [(0, stRow 32 false s), (1, .row true 71 [.v (.int .i64 p), .v (.int .i64 q)])], 2⟩
abbrev C_2 (s : St) (p q : Int) : ASt := ⟨envOf [(2, .op 0 0), (3, .op 1 0), (5, .op 2 0)], heapOf [(0, stRow 32 false s), (1, .row true 71 [.v (.int .i64 p), .v (.int .i64 q)]),
  (2, .row true 36 [uSegs true s.segs, uBools true s.held, uBlks true s.opn, .v (.int .i64 s.next)])], 3⟩
abbrev C_4 (s : St) (p q : Int) (u0 u1 u2 : Value) : ASt := ⟨envOf [(2, .op 0 0), (3, .op 1 0), (5, .op 2 0)], heapOf [(0, .row false 32 (cSt false s)), (1, .row false 71 [.v (.int .i64 p), .v (.int .i64 q)]),
  (2, .row false 36 [.v u0, .v u1, .v u2, .v (.int .i64 s.next)])], 3⟩
abbrev C_5 (s : St) (p q : Int) (u0 u1 u2 : Value) (t : St) (e : Int) : ASt := ⟨envOf [(2, .op 0 0), (3, .op 1 0), (5, .op 2 0), (6, .op 3 0), (7, .v (.int .i64 e))], heapOf [(0, .row false 32 (cSt false s)), (1, .row false 71 [.v (.int .i64 p), .v (.int .i64 q)]),
  (2, .row false 36 [.v u0, .v u1, .v u2, .v (.int .i64 s.next)]), (3, .row true 36 (cSt true t))], 4⟩
abbrev C_6 (s : St) (u0 u1 u2 : Value) (t : St) (e : Int) : ASt := ⟨envOf [(5, .op 2 0), (6, .op 3 0), (7, .v (.int .i64 e)), (8, .op 4 0), (9, .v (.int .i64 e))], heapOf [
  (2, .row false 36 [.v u0, .v u1, .v u2, .v (.int .i64 s.next)]), (3, .row true 36 (cSt true t)), (4, .row true 32 (cSt true t))], 5⟩
abbrev C_9 (s : St) (t : St) (e : Int) : ASt := ⟨envOf [(5, .op 2 0), (6, .op 3 0), (7, .v (.int .i64 e)), (8, .op 4 0), (9, .v (.int .i64 e))], heapOf [
  (2, .row false 36 [wSegs s.segs, wBools s.held, wBlks s.opn, .v (.int .i64 s.next)]), (3, .row false 36 (cSt true t)), (4, .row false 32 (cSt true t))], 5⟩
theorem cown_weak (s t : St) (e : Int) : Weak 82 0 (C_9 s t e) (P_0 s t e) := by
  refine Weak.calc [(2, 0), (3, 1), (4, 2)] (by decide) ?_ ?_ <;> simp [tk_B, tk_Bools, tk_Blks, tk_Segs, AlL_append, renL_append, okL, okH, rowIs, okV, okHV, rowVt, vtL, okF, okHF, rowFz, fzL, fzV, fzOne, nilLike, oldLike, rn, s_envOf, s_envOf0, s_heapOf, s_heapOf0, s_put, s_put0, s_put1, s_app0, s_app1, Al, AlL, ren, renL, al_B, al_Bools, al_Blks, al_Segs, ren_B, ren_Bools, ren_Blks, ren_Segs, fB, fBools, fBlks, fSegs, wSegs, wBools, wBlks, al_weSegs, ren_weSegs, al_weBlks, ren_weBlks]
theorem cown_run (s : St) (p q : Int) (u0 u1 u2 : Value) (t : St) (e : Int) : runL Try.prog 3 [⟨some 17, .mv (.tmp 20), none, [20], []⟩, ⟨some 21, .ext 0 (.tmp 17), none, [17], []⟩, ⟨some 22, .ext 1 (.tmp 17), none, [17], []⟩, ⟨some 6, .new 36 [(.slice none 0 0), (.slice none 0 0), (.slice none 0 0), (.int .i64 (0))], none, [], []⟩, ⟨none, .store 4 (.tmp 6) (.tmp 21), none, [6, 21], []⟩, ⟨some 7, .mv (.tmp 22), none, [22], []⟩] 3
    ⟨putE (putE (putE (C_4 s p q u0 u1 u2).env (some 18) (.agg [.v u0, .v u1, .v u2, .v (.int .i64 s.next)])) (some 19) (.agg [.v (.int .i64 p), .v (.int .i64 q)])) (some 20) (.tup [aSt true t, .v (.int .i64 e)]), (C_4 s p q u0 u1 u2).σ, 3⟩ []
    fun s' _ => Weak 82 0 ⟨envOf ([2, 3, 5, 6, 7].map fun k => (k, s'.env k)), s'.σ, 3 + 64 * 9⟩ (C_5 s p q u0 u1 u2 t e) := by
  simp only [C_4, aSt, SS, boxA, cellsOf, foffA, loadA, ldA, idxA, fldA, binA, binVal, isSh, intVal, lenA, slenA, pickA, storeA, setN, getN, fillA, extA, beqA, eqsA, eqL, isnilA, unA, unVal, convA, nilA, sconvA, b2sA, b2sOf, bytesOf, mmA, srcA, appA, sliceA, lohi, mkslA, envA, ↓reduceIte, Nat.reduceEqDiff, Nat.reduceAdd, Nat.reduceMul, reduceCtorEq, Nat.reduceLeDiff, fB, fBools, fBlks, fSegs, aBlk, aSg, aSt, stRow, List.drop_zero, List.take_succ_cons, List.take_zero, List.take_nil, Nat.mul_one, Nat.one_mul, List.cons_append, List.nil_append]
  refine Weak.calc [(0, 0), (1, 1), (2, 2), (387, 3)] (by decide) ?_ ?_ <;> simp [tk_B, tk_Bools, tk_Blks, tk_Segs, AlL_append, renL_append, okL, okH, rowIs, okV, okHV, rowVt, vtL, okF, okHF, rowFz, fzL, fzV, fzOne, nilLike, oldLike, rn, s_envOf, s_envOf0, s_heapOf, s_heapOf0, s_put, s_put0, s_put1, s_app0, s_app1, Al, AlL, ren, renL, al_B, al_Bools, al_Blks, al_Segs, ren_B, ren_Bools, ren_Blks, ren_Segs, fB, fBools, fBlks, fSegs, s_tmp, s_const, setN]
theorem cown_rrun (s : St) (p q : Int) (u0 u1 u2 : Value) (hok : okSt s) : wpC Try.prog 82 0 r4_7 (C_5 s p q u0 u1 u2 (cl s p q).1 (cl s p q).2) fun e s' => e = .normal ∧ Weak 82 0 s' (C_6 s u0 u1 u2 (cl s p q).1 (cl s p q).2) := by
  simp only [r4_7, C_5, SS, boxA, cellsOf, foffA, loadA, ldA, idxA, fldA, binA, binVal, isSh, intVal, lenA, slenA, pickA, storeA, setN, getN, fillA, extA, beqA, eqsA, eqL, isnilA, unA, unVal, convA, nilA, sconvA, b2sA, b2sOf, bytesOf, mmA, srcA, appA, sliceA, lohi, mkslA, envA, ↓reduceIte, Nat.reduceEqDiff, Nat.reduceAdd, Nat.reduceMul, reduceCtorEq, Nat.reduceLeDiff, fB, fBools, fBlks, fSegs, aBlk, aSg, aSt, stRow, List.drop_zero, List.take_succ_cons, List.take_zero, List.take_nil, Nat.mul_one, Nat.one_mul, List.cons_append, List.nil_append]
  refine ⟨_, rclean_spec false s p q _ hok, ?_⟩
  rw [cl_eq]
  generalize (cl s p q).1 = t
  generalize (cl s p q).2 = e
  simp only [aSt, SS, boxA, cellsOf, foffA, loadA, ldA, idxA, fldA, binA, binVal, isSh, intVal, lenA, slenA, pickA, storeA, setN, getN, fillA, extA, beqA, eqsA, eqL, isnilA, unA, unVal, convA, nilA, sconvA, b2sA, b2sOf, bytesOf, mmA, srcA, appA, sliceA, lohi, mkslA, envA, ↓reduceIte, Nat.reduceEqDiff, Nat.reduceAdd, Nat.reduceMul, reduceCtorEq, Nat.reduceLeDiff, fB, fBools, fBlks, fSegs, aBlk, aSg, aSt, stRow, List.drop_zero, List.take_succ_cons, List.take_zero, List.take_nil, Nat.mul_one, Nat.one_mul, List.cons_append, List.nil_append]
  refine Weak.calc [(2, 2), (3, 3), (388, 4)] (by decide) ?_ ?_ <;> simp [tk_B, tk_Bools, tk_Blks, tk_Segs, AlL_append, renL_append, okL, okH, rowIs, okV, okHV, rowVt, vtL, okF, okHF, rowFz, fzL, fzV, fzOne, nilLike, oldLike, rn, s_envOf, s_envOf0, s_heapOf, s_heapOf0, s_put, s_put0, s_put1, s_app0, s_app1, Al, AlL, ren, renL, al_B, al_Bools, al_Blks, al_Segs, ren_B, ren_Bools, ren_Blks, ren_Segs, fB, fBools, fBlks, fSegs, s_tmp, s_const, setN]
theorem cown_end {c : Cx} {a : Act} {code : Code} {Q' : Exit → Act → World → Prop} (s t : St) (e : Int) (u0 u1 u2 : Value) (L M : Nat) (hLM : L ≤ M)
    (hc : compCode Try.prog 82 code = some rest_7.forget) (hs : SZ s) (ht : SZ t)
    (h : RelR 82 5 No c (C_6 s u0 u1 u2 t e) a) (hM : M ≤ c.B) (hT : ∀ b, b < L → ¬ c.T b)
    (v0 : VR (c.seen L M) (uSegs true s.segs) u0) (v1 : VR (c.seen L M) (uBools true s.held) u1) (v2 : VR (c.seen L M) (uBlks true s.opn) u2)
    (hQ : ∀ c' a', RelR 82 1 No c' ⟨envOf [(4, .v (.bool true))], heapOf [], 1⟩ a' → Below L c.w c'.w → Q' .ret a' c'.w) : code.wp Try.prog Q' a c.w := by
  have hσ : ∀ id, (C_9 s t e).σ id ≠ none → c.σ id ≠ none := by
    intro id hid
    obtain ⟨o, ho⟩ := Option.ne_none_iff_exists'.1 hid
    have hm := heapOf_mem ho
    simp only [List.mem_cons, List.not_mem_nil, or_false, Prod.mk.injEq] at hm
    rw [h.σ]
    rcases hm with ⟨rfl, _⟩ | ⟨rfl, _⟩ | ⟨rfl, _⟩ <;> exact fun h => by cases h
  generalize hd' : c.give L M (C_9 s t e).σ = c' at *
  have w' : c'.w = c.w := by rw [← hd']; rfl
  have B' : c'.B = c.B := by rw [← hd']; rfl
  have X' : ∀ b, c'.X b ↔ (c.X b ∨ LeafT c L M 5 b ∨ LeafT c L M 4 b) := by rw [← hd']; intro b; rfl
  have ntX : ∀ (id b' : Nat) (o : AObj), c.σ id = some o → c.φ id = some (some b') → ¬ c.X b' → ¬ c'.X b' := by
    intro id b' o e1 e2 e3
    rw [X']
    rintro (h9 | h9 | h9)
    · exact e3 h9
    · exact h9.2.1 ⟨id, o, e1, e2⟩
    · exact h9.2.1 ⟨id, o, e1, e2⟩
  have res : ∀ (st0 : St) (j : Nat) (x : AV) (u : Value), (cSt true st0)[j]? = some x → VR c x u → VR c' x u := by
    intro st0 j x u h1 h2
    rw [← hd']
    exact give_true hσ hM (lb_cTrue st0 j x h1) h2
  have h' : RelR 82 5 No c' (C_9 s t e) a := by
    refine RelR.rebase h w' (by rw [← hd']; rfl) (by rw [← hd']; rfl) (by rw [B', w']; exact h.hr.base) (fun b hb => ?_) (fun t => .inr fun u hu => VR.ops2 (c := c) (by rw [← hd']; rfl) (by simp) hu) (fun id y e cells hs => ?_)
    · rw [w']
      rcases (X' b).1 hb with h9 | ⟨_, _, vs, h9⟩ | ⟨_, _, vs, h9⟩
      · exact h.hr.xlt b h9
      · exact lt_of_heap h9
      · exact lt_of_heap h9
    · have hm := heapOf_mem hs
      simp only [List.mem_cons, List.not_mem_nil, or_false, Prod.mk.injEq, AObj.row.injEq] at hm
      rcases hm with ⟨rfl, rfl, rfl, rfl⟩ | ⟨rfl, rfl, rfl, rfl⟩ | ⟨rfl, rfl, rfl, rfl⟩
      · refine ⟨rfl, false, _, rfl, rfl, fun b' vs e1 e2 e3 => ⟨ntX 2 b' _ (by rw [h.σ]; rfl) e1 e3, fun j x y0 u f1 f2 f3 f4 => ?_⟩⟩
        match j, f1, f2 with
        | 0, f1, f2 => cases f1; cases f2; cases f4; rw [← hd']; exact give_segs hσ v0
        | 1, f1, f2 => cases f1; cases f2; cases f4; rw [← hd']; exact give_bool hσ v1
        | 2, f1, f2 => cases f1; cases f2; cases f4; rw [← hd']; exact give_blks hσ v2
        | 3, f1, f2 => cases f1; cases f2; exact f4
        | j + 4, f1, f2 => simp at f1
      · exact ⟨rfl, true, cSt true t, rfl, rfl, fun b' vs e1 e2 e3 => ⟨ntX 3 b' _ (by rw [h.σ]; rfl) e1 e3, fun j x y0 u f1 f2 f3 f4 => by rw [f1] at f2; cases f2; exact res t j x u f1 f4⟩⟩
      · exact ⟨rfl, true, cSt true t, rfl, rfl, fun b' vs e1 e2 e3 => ⟨ntX 4 b' _ (by rw [h.σ]; rfl) e1 e3, fun j x y0 u f1 f2 f3 f4 => by rw [f1] at f2; cases f2; exact res t j x u f1 f4⟩⟩
  obtain ⟨c2, e2, g2, _, h2, _⟩ := cown_weak s t e c' a h' (Nat.zero_le _)
  rw [← w', ← e2]
  refine aw_run2 h2 hc (rest_cown s t e hs ht) (fun _ _ h _ _ => h.elim) (fun c3 a3 _ g3 h3 => hQ c3 a3 h3 ?_)
  have g := g2.trans g3
  rw [← w']
  have hLs : L ≤ c'.w.heap.size := by
    have := h.hr.base
    rw [w']; omega
  refine ⟨g.osE, g.tape, g.out, g.size, fun b' hb' => g.stay b' (by omega) (fun hT' => ?_) (fun _ => ?_)⟩
  · rw [← hd'] at hT'
    exact hT b' hb' (give_T hσ hT')
  · rw [← hd']
    exact (if_neg (fun h9 : LeafT c L M 5 b' => by have := h9.1.1; omega)).trans (if_neg (fun h9 : LeafT c L M 4 b' => by have := h9.1.1; omega))
end Go.Proofs.Ytfoeddmbhmfjcaa
/- CleanOwn, put together. -/
namespace Go.Proofs.Ytfoeddmbhmfjcaa
open Go.RowKit
set_option maxRecDepth 100000
set_option maxHeartbeats 4000000 in
theorem cleanOwn_row (_f : Bool) (s : St) (p q : Int) (nb : Nat) (hok : okSt s) : ASound Try.prog 7 [aSt false s, aRec p q] nb (.ret (.v (.bool true)) []) := by
  refine hand_sound Try.func7 rfl (by rfl) (by simp [Try.ntmps7]) ⟨Lb.nw (lb_St (p := fun _ => True) (fr := false) trivial s), ⟨trivial, trivial, trivial⟩, trivial⟩ trivial ?_
  rw [Try.ntmps7]
  intro c a hY hrel
  have h0 : RelR 82 0 No (c.gh c.w.heap.size c.X) ⟨envA [aSt false s, aRec p q], fun _ => none, 0⟩ a := by
    refine RelR.rebase hrel rfl rfl hrel.σ (Nat.le_refl _) hrel.hr.xlt (fun t => .inr fun u hu => ?_) (fun id y e cells h => by cases h)
    refine VR.lb (c := c) (d := c.gh c.w.heap.size c.X) (p := fun fr => fr = false) rfl (fun fr b h1 h2 h3 => ⟨fun h => (by rw [h1] at h; cases h), h3.2.1, h3.2.2⟩) ?_ hu
    match t with
    | 0 => exact lb_St (p := fun fr => fr = false) (fr := false) rfl s
    | 1 => exact (⟨trivial, trivial, trivial⟩ : LbL (fun fr => fr = false) [.v (.int .i64 p), .v (.int .i64 q)])
    | n + 2 => trivial
  show Code.wp _ _ _ a (c.gh c.w.heap.size c.X).w
  generalize hc0 : c.gh c.w.heap.size c.X = c0 at h0 ⊢
  refine wp_seq (aw_run (st := ⟨envA [aSt false s, aRec p q], fun _ => none, 0⟩) (ac := r0_7) (st' := C_1 s p q) h0 (by kernel_rfl) ?_ ?_)
  · simp only [r0_7, aSt, aRec, envA, SS, boxA, cellsOf, foffA, loadA, ldA, idxA, fldA, binA, binVal, isSh, intVal, lenA, slenA, pickA, storeA, setN, getN, fillA, extA, beqA, eqsA, eqL, isnilA, unA, unVal, convA, nilA, sconvA, b2sA, b2sOf, bytesOf, mmA, srcA, appA, sliceA, lohi, mkslA, envA, ↓reduceIte, Nat.reduceEqDiff, Nat.reduceAdd, Nat.reduceMul, reduceCtorEq, Nat.reduceLeDiff, fB, fBools, fBlks, fSegs, aBlk, aSg, aSt, stRow, List.drop_zero, List.take_succ_cons, List.take_zero, List.take_nil, Nat.mul_one, Nat.one_mul, List.cons_append, List.nil_append]
    refine Weak.calc [(0, 0), (64, 1)] (by decide) ?_ ?_ <;> simp [tk_B, tk_Bools, tk_Blks, tk_Segs, AlL_append, renL_append, okL, okH, rowIs, okV, okHV, rowVt, vtL, okF, okHF, rowFz, fzL, fzV, fzOne, nilLike, oldLike, rn, s_envOf, s_envOf0, s_heapOf, s_heapOf0, s_put, s_put0, s_put1, s_app0, s_app1, Al, AlL, ren, renL, al_B, al_Bools, al_Blks, al_Segs, ren_B, ren_Bools, ren_Blks, ren_Segs, fB, fBools, fBlks, fSegs]
  intro c1 a1 g1 h1
  simp only [Exit.then]
  refine wp_seq (aw_run (st := C_1 s p q) (ac := r1_7) (st' := C_1 s p q) h1 (by kernel_rfl) ?_ ?_)
  · simp only [r1_7, SS, boxA, cellsOf, foffA, loadA, ldA, idxA, fldA, binA, binVal, isSh, intVal, lenA, slenA, pickA, storeA, setN, getN, fillA, extA, beqA, eqsA, eqL, isnilA, unA, unVal, convA, nilA, sconvA, b2sA, b2sOf, bytesOf, mmA, srcA, appA, sliceA, lohi, mkslA, envA, ↓reduceIte, Nat.reduceEqDiff, Nat.reduceAdd, Nat.reduceMul, reduceCtorEq, Nat.reduceLeDiff, fB, fBools, fBlks, fSegs, aBlk, aSg, aSt, stRow, List.drop_zero, List.take_succ_cons, List.take_zero, List.take_nil, Nat.mul_one, Nat.one_mul, List.cons_append, List.nil_append]
    refine ⟨_, alive16_spec _, ?_⟩
    simp only [SS, boxA, cellsOf, foffA, loadA, ldA, idxA, fldA, binA, binVal, isSh, intVal, lenA, slenA, pickA, storeA, setN, getN, fillA, extA, beqA, eqsA, eqL, isnilA, unA, unVal, convA, nilA, sconvA, b2sA, b2sOf, bytesOf, mmA, srcA, appA, sliceA, lohi, mkslA, envA, ↓reduceIte, Nat.reduceEqDiff, Nat.reduceAdd, Nat.reduceMul, reduceCtorEq, Nat.reduceLeDiff, fB, fBools, fBlks, fSegs, aBlk, aSg, aSt, stRow, List.drop_zero, List.take_succ_cons, List.take_zero, List.take_nil, Nat.mul_one, Nat.one_mul, List.cons_append, List.nil_append]
    refine Weak.calc [(0, 0), (1, 1)] (by decide) ?_ ?_ <;> simp [tk_B, tk_Bools, tk_Blks, tk_Segs, AlL_append, renL_append, okL, okH, rowIs, okV, okHV, rowVt, vtL, okF, okHF, rowFz, fzL, fzV, fzOne, nilLike, oldLike, rn, s_envOf, s_envOf0, s_heapOf, s_heapOf0, s_put, s_put0, s_put1, s_app0, s_app1, Al, AlL, ren, renL, al_B, al_Bools, al_Blks, al_Segs, ren_B, ren_Bools, ren_Blks, ren_Segs, fB, fBools, fBlks, fSegs]
  intro c2 a2 g2 h2
  simp only [Exit.then]
  refine wp_seq (aw_run (st := C_1 s p q) (ac := r2_7) (st' := C_2 s p q) h2 (by kernel_rfl) ?_ ?_)
  · simp only [r2_7, SS, boxA, cellsOf, foffA, loadA, ldA, idxA, fldA, binA, binVal, isSh, intVal, lenA, slenA, pickA, storeA, setN, getN, fillA, extA, beqA, eqsA, eqL, isnilA, unA, unVal, convA, nilA, sconvA, b2sA, b2sOf, bytesOf, mmA, srcA, appA, sliceA, lohi, mkslA, envA, ↓reduceIte, Nat.reduceEqDiff, Nat.reduceAdd, Nat.reduceMul, reduceCtorEq, Nat.reduceLeDiff, fB, fBools, fBlks, fSegs, aBlk, aSg, aSt, stRow, List.drop_zero, List.take_succ_cons, List.take_zero, List.take_nil, Nat.mul_one, Nat.one_mul, List.cons_append, List.nil_append]
    refine ⟨_, ofSt_U false s _ (ok_sz hok), ?_⟩
    simp only [uSt, uSegs, uBools, uBlks, SS, boxA, cellsOf, foffA, loadA, ldA, idxA, fldA, binA, binVal, isSh, intVal, lenA, slenA, pickA, storeA, setN, getN, fillA, extA, beqA, eqsA, eqL, isnilA, unA, unVal, convA, nilA, sconvA, b2sA, b2sOf, bytesOf, mmA, srcA, appA, sliceA, lohi, mkslA, envA, ↓reduceIte, Nat.reduceEqDiff, Nat.reduceAdd, Nat.reduceMul, reduceCtorEq, Nat.reduceLeDiff, fB, fBools, fBlks, fSegs, aBlk, aSg, aSt, stRow, List.drop_zero, List.take_succ_cons, List.take_zero, List.take_nil, Nat.mul_one, Nat.one_mul, List.cons_append, List.nil_append]
    refine Weak.calc [(0, 0), (1, 1), (130, 2)] (by decide) ?_ ?_ <;> simp [tk_B, tk_Bools, tk_Blks, tk_Segs, AlL_append, renL_append, okL, okH, rowIs, okV, okHV, rowVt, vtL, okF, okHF, rowFz, fzL, fzV, fzOne, nilLike, oldLike, rn, s_envOf, s_envOf0, s_heapOf, s_heapOf0, s_put, s_put0, s_put1, s_app0, s_app1, Al, AlL, ren, renL, al_B, al_Bools, al_Blks, al_Segs, ren_B, ren_Bools, ren_Blks, ren_Segs, fB, fBools, fBlks, fSegs, uSegs, uBools, uBlks, al_ueSegs, al_ueBlks, ren_ueSegs, ren_ueBlks]
  intro c4 a4 g4 h4
  simp only [Exit.then]
  obtain ⟨bx, cx, px, qx, yx, nx_, vx⟩ := row_of (id := 2) h4.hr (by rw [h4.σ]; rfl)
  obtain ⟨u0, x0, _, w0⟩ := vx 0 _ rfl
  obtain ⟨u1, x1, _, w1⟩ := vx 1 _ rfl
  obtain ⟨u2, x2, _, w2⟩ := vx 2 _ rfl
  generalize hc5 : (⟨c4.w, c4.w.heap.size, c4.φ, (C_4 s p q u0 u1 u2).σ, c4.X, c4.Y⟩ : Cx) = c5
  have w5 : c5.w = c4.w := by rw [← hc5]
  have φ5 : c5.φ = c4.φ := by rw [← hc5]
  have σ5 : c5.σ = (C_4 s p q u0 u1 u2).σ := by rw [← hc5]
  have X5 : c5.X = c4.X := by rw [← hc5]
  have T5 : ∀ b', c5.T b' → c4.T b' := by
    rintro b' ⟨id, o, e1, e2⟩
    rw [σ5] at e1
    rw [φ5] at e2
    have hm := heapOf_mem e1
    simp only [List.mem_cons, List.not_mem_nil, or_false, Prod.mk.injEq] at hm
    rcases hm with ⟨rfl, _⟩ | ⟨rfl, _⟩ | ⟨rfl, _⟩ <;> exact ⟨_, _, by rw [h4.σ]; rfl, e2⟩
  have k5 : ∀ fr b', fr = false → b' < c4.w.heap.size → c4.ok fr b' → c5.ok fr b' := fun fr b' e1 _ e2 => ⟨fun e3 => (by rw [e1] at e3; cases e3), fun e3 => e2.2.1 (T5 b' e3), by rw [X5]; exact e2.2.2⟩
  have h5 : RelR 82 3 No c5 (C_4 s p q u0 u1 u2) a4 := by
    refine RelR.rebase h4 w5 φ5 σ5 (by rw [← hc5]; exact Nat.le_refl _) (by rw [X5, w5]; exact h4.hr.xlt) (fun t => .inr fun u hu => VR.ops (c := c4) φ5 (by simp) hu) (fun id y e cells hs => ?_)
    have hm := heapOf_mem hs
    simp only [List.mem_cons, List.not_mem_nil, or_false, Prod.mk.injEq, AObj.row.injEq] at hm
    rcases hm with ⟨rfl, rfl, rfl, rfl⟩ | ⟨rfl, rfl, rfl, rfl⟩ | ⟨rfl, rfl, rfl, rfl⟩
    · refine ⟨rfl, true, cSt false s, rfl, rfl, fun b' vs e1 e2 e3 => ⟨by rw [X5]; exact e3, fun j x y0 u f1 f2 f3 f4 => ?_⟩⟩
      rw [f1] at f2; cases f2
      exact VR.lb (p := fun fr => fr = false) w5 k5 (LbL_iff.1 (lb_cSt (p := fun fr => fr = false) (fr := false) rfl s) x (List.mem_of_getElem? f1)) f4
    · refine ⟨rfl, true, _, rfl, rfl, fun b' vs e1 e2 e3 => ⟨by rw [X5]; exact e3, fun j x y0 u f1 f2 f3 f4 => ?_⟩⟩
      rw [f1] at f2; cases f2
      exact VR.lb (p := fun fr => fr = false) w5 k5 (LbL_iff.1 (show LbL (fun fr => fr = false) [.v (.int .i64 p), .v (.int .i64 q)] from ⟨trivial, trivial, trivial⟩) x (List.mem_of_getElem? f1)) f4
    · refine ⟨rfl, true, _, rfl, rfl, fun b' vs e1 e2 e3 => ⟨by rw [X5]; exact e3, fun j x y0 u f1 f2 f3 f4 => ?_⟩⟩
      rw [px] at e1; cases e1
      rw [qx] at e2; cases e2
      rcases j with _ | _ | _ | _ | j
      · cases f1; rw [x0] at f3; cases f3; rfl
      · cases f1; rw [x1] at f3; cases f3; rfl
      · cases f1; rw [x2] at f3; cases f3; rfl
      · cases f1; cases f2; exact f4
      · simp at f1
  have gA := (g1.trans g2).trans g4
  have B4 : c4.B = c.w.heap.size := by rw [gA.B, ← hc0]
  have ks : ∀ fr b', fr = true → b' < c4.w.heap.size → c4.ok fr b' → (c5.seen c.w.heap.size c4.w.heap.size).ok fr b' := fun fr b' e1 e2 e3 =>
    ⟨fun _ => by have := e3.1 e1; rw [B4] at this; exact this, fun e4 => e3.2.1 (T5 b' e4), by
      show ¬ (c5.X b' ∨ c4.w.heap.size ≤ b')
      rw [X5]
      rintro (e4 | e4)
      · exact e3.2.2 e4
      · omega⟩
  have v0 : VR (c5.seen c.w.heap.size c4.w.heap.size) (uSegs true s.segs) u0 := VR.lb (c := c4) (d := c5.seen c.w.heap.size c4.w.heap.size) w5 ks (lb_uSegs s.segs) w0
  have v1 : VR (c5.seen c.w.heap.size c4.w.heap.size) (uBools true s.held) u1 := VR.lb (c := c4) (d := c5.seen c.w.heap.size c4.w.heap.size) w5 ks ⟨rfl, lb_eBools _⟩ w1
  have v2 : VR (c5.seen c.w.heap.size c4.w.heap.size) (uBlks true s.opn) u2 := VR.lb (c := c4) (d := c5.seen c.w.heap.size c4.w.heap.size) w5 ks (lb_uBlks s.opn) w2
  have Y5 : ∀ b', c5.Y b' = .no := by rw [← hc5]; intro b'; show c4.Y b' = _; rw [gA.Y, ← hc0]; exact hY b'
  rw [← w5]
  have back : ∀ cc, Grow c5 cc → VR cc (aSt false s) (.agg #[u0, u1, u2, .int .i64 s.next]) := by
    intro cc gg
    have gh := gg.gh Y5 c.w.heap.size (fun b' => c5.X b' ∨ c4.w.heap.size ≤ b')
    have kk : ∀ fr b', fr = false → b' < cc.w.heap.size → (cc.gh c.w.heap.size (fun b' => c5.X b' ∨ c4.w.heap.size ≤ b')).ok fr b' → cc.ok fr b' := fun fr b' e1 _ e2 => ⟨fun e3 => (by rw [e1] at e3; cases e3), e2.2.1, fun e3 => e2.2.2 (.inl (by rw [← gg.X]; exact e3))⟩
    have t0 := VR.lb (c := cc.gh c.w.heap.size (fun b' => c5.X b' ∨ c4.w.heap.size ≤ b')) (p := fun fr => fr = false) (d := cc) rfl kk (lb_Segs (p := fun fr => fr = false) (fr := false) rfl _) (imp_uSegs s.segs _ _ (VR.lbm gh (lb_uSegs _) v0))
    have t1 := VR.lb (c := cc.gh c.w.heap.size (fun b' => c5.X b' ∨ c4.w.heap.size ≤ b')) (p := fun fr => fr = false) (d := cc) rfl kk (lb_Bools (p := fun fr => fr = false) (fr := false) rfl _) (imp_uBools s.held _ _ (VR.lbm (p := fun fr => fr = true) gh ⟨rfl, lb_eBools _⟩ v1))
    have t2 := VR.lb (c := cc.gh c.w.heap.size (fun b' => c5.X b' ∨ c4.w.heap.size ≤ b')) (p := fun fr => fr = false) (d := cc) rfl kk (lb_Blks (p := fun fr => fr = false) (fr := false) rfl _) (imp_uBlks s.opn _ _ (VR.lbm gh (lb_uBlks _) v2))
    have one : ∀ {fr : Bool} {cs : List AV} {n : Nat} {u : Value}, VR cc (.fs fr cs n) u → u.oneCell' = true := by
      intro fr cs n u h
      obtain ⟨A, k, rfl, _⟩ := h
      rfl
    exact ⟨[u0, u1, u2, .int .i64 s.next], rfl, _, _, rfl, one t0, t0, _, _, rfl, one t1, t1, _, _, rfl, one t2, t2, _, _, rfl, rfl, rfl, rfl⟩
  refine wp_seq (wp_region ?_)
  show wpOps _ _ _ [0, 1, 2, 3, 4, 5, 6, 7, 8] _ _
  rw [wpOps_cons]
  refine hand_eff (N := 82) (nx := 3) (st := C_4 s p q u0 u1 u2) (ao := .load true 4 (.tmp 5)) (r := .agg [.v u0, .v u1, .v u2, .v (.int .i64 s.next)]) (R := [2]) (W := []) (done' := fun j => j < 1) (RelR.start (st := C_4 s p q u0 u1 u2) h5) rfl rfl rfl (by kernel_rfl) rfl rfl (by omega) (fun j hj => by omega) ?_
  intro c6 a6 l6 h6
  rw [wpOps_cons]
  refine hand_eff (N := 82) (nx := 3) (ao := .load true 2 (.tmp 3)) (r := .agg [.v (.int .i64 p), .v (.int .i64 q)]) (R := [1]) (W := []) (done' := fun j => j < 2) h6 rfl rfl rfl (by kernel_rfl) rfl rfl (by omega) (fun j hj => by omega) ?_
  intro c7 a7 l7 h7
  rw [wpOps_cons]
  have q18 : a7.eval (.tmp 18) = .agg #[u0, u1, u2, .int .i64 s.next] := by
    obtain ⟨us, e1, _, _, rfl, _, rfl, _, _, rfl, _, rfl, _, _, rfl, _, rfl, _, _, rfl, _, rfl, rfl⟩ := h7.env 18
    exact e1
  have q19 : a7.eval (.tmp 19) = .agg #[.int .i64 p, .int .i64 q] := by
    obtain ⟨us, e1, _, _, rfl, _, rfl, _, _, rfl, _, rfl, rfl⟩ := h7.env 19
    exact e1
  have bk1 := back c7 (l6.grow.trans l7.grow)
  refine hand_call (N := 82) (nx := 3) (done' := fun j => j < 3) h7 rfl rfl rfl (exec_call (f := 33) (args := [.tmp 18, .tmp 19]) (by kernel_rfl) (by rfl) a7 _) ?_ (fun j hj => by omega)
  show Calls _ _ #[a7.eval (.tmp 18), a7.eval (.tmp 19)] _ _
  rw [q18, q19]
  refine ((clean_specF s p q (3 + 64 * 2) hok).2 c7 [_, _] _ _ [] rfl h7.hr (fun id hid => ?_) ⟨_, _, rfl, bk1, _, _, rfl, ⟨_, rfl, _, _, rfl, rfl, rfl, _, _, rfl, rfl, rfl, rfl⟩, rfl⟩).mono ?_
  · by_cases hn : c7.φ id = none
    · exact .inl hn
    · obtain ⟨j, q1, q2, q3⟩ := h7.fresh id (by show 3 ≤ id; omega) hn
      exact .inr (by omega)
  rintro e w' ⟨v, d8, rfl, rfl, hv8, T8⟩
  refine ⟨v, d8, _, rfl, rfl, hv8, T8, fun h8 => ?_⟩
  refine text_shut (k := 3) (rs := [⟨some 17, .mv (.tmp 20), none, [20], []⟩, ⟨some 21, .ext 0 (.tmp 17), none, [17], []⟩, ⟨some 22, .ext 1 (.tmp 17), none, [17], []⟩, ⟨some 6, .new 36 [(.slice none 0 0), (.slice none 0 0), (.slice none 0 0), (.int .i64 (0))], none, [], []⟩, ⟨none, .store 4 (.tmp 6) (.tmp 21), none, [6, 21], []⟩, ⟨some 7, .mv (.tmp 22), none, [22], []⟩])
    (by decide) (by kernel_rfl) h8 rfl (st' := C_5 s p q u0 u1 u2 (cl s p q).1 (cl s p q).2) (keep := [2, 3, 5, 6, 7]) ?_ ?_
  · exact cown_run s p q u0 u1 u2 (cl s p q).1 (cl s p q).2
  intro c9 a9 g9 h9
  simp only [Exit.then]
  have gB : Grow c5 c9 := ((l6.grow.trans l7.grow).trans T8.grow).trans g9
  refine wp_seq (aw_run (st := C_5 s p q u0 u1 u2 (cl s p q).1 (cl s p q).2) (ac := r4_7) (st' := C_6 s u0 u1 u2 (cl s p q).1 (cl s p q).2) h9 (by kernel_rfl) ?_ ?_)
  · exact cown_rrun s p q u0 u1 u2 hok
  intro c14 a14 g14 h14
  simp only [Exit.then]
  have gD : Grow c5 c14 := gB.trans g14
  have gh := gD.gh Y5 c.w.heap.size (fun b' => c5.X b' ∨ c4.w.heap.size ≤ b')
  have X14 : c14.seen c.w.heap.size c4.w.heap.size = c14.gh c.w.heap.size (fun b' => c5.X b' ∨ c4.w.heap.size ≤ b') := by
    show c14.gh _ _ = _
    rw [gD.X]
  have L4 : c.w.heap.size ≤ c4.w.heap.size := by have := gA.size; rw [← hc0] at this; exact this
  have T4 : ∀ b', b' < c.w.heap.size → ¬ c4.T b' := by
    intro b' hb' hT
    rcases gA.held b' hT with h9 | h9
    · rw [← hc0] at h9
      obtain ⟨id, o, e1, _⟩ := h9
      have : c.σ id = some o := e1
      rw [hrel.σ] at this; cases this
    · rw [← hc0] at h9
      have : c.w.heap.size ≤ b' := h9
      omega
  have T5' : ∀ b', b' < c.w.heap.size → ¬ c5.T b' := fun b' hb' hT => T4 b' hb' (T5 b' hT)
  have Y0 : ∀ b', c0.Y b' = .no := by intro b'; rw [← hc0]; exact hY b'
  refine cown_end s (cl s p q).1 (cl s p q).2 u0 u1 u2 c.w.heap.size c4.w.heap.size L4 (by kernel_rfl) (ok_sz hok) (ok_sz (okSt_cl hok)) h14 ?_ ?_
    (by rw [X14]; exact VR.lbm gh (lb_uSegs _) v0) (by rw [X14]; exact VR.lbm (p := fun fr => fr = true) gh ⟨rfl, lb_eBools _⟩ v1) (by rw [X14]; exact VR.lbm gh (lb_uBlks _) v2) ?_
  · rw [gD.B, ← hc5]; exact Nat.le_refl _
  · intro b' hb' hT
    rcases gD.held b' hT with h9 | h9
    · exact T5' b' hb' h9
    · rw [w5] at h9; omega
  · intro c' a' h' hbel
    show (_ ∨ _) ∧ _ ∧ _
    refine ⟨Or.inr rfl, h'.defers, ?_⟩
    obtain ⟨u, e1, e2⟩ := results_run (fn := Try.f7) h' (xs := [.tmp 4]) (l := [.v (.bool true)]) (by kernel_rfl) rfl
    refine ⟨u, ⟨c'.w, c.B, c'.φ, c'.σ, c.X, c'.Y⟩, e1, rfl, e2, ?_, rfl, fun _ h => h⟩
    have b1 : Below c.w.heap.size c.w c4.w := by
      refine ⟨?_, ?_, ?_, L4, fun b' hb' => ?_⟩
      · have := gA.osE; rw [← hc0] at this; exact this
      · have := gA.tape; rw [← hc0] at this; exact this
      · have := gA.out; rw [← hc0] at this; exact this
      · have := gA.stay b' (by rw [← hc0]; exact hb') (fun h9 => ?_) (fun _ => Y0 b')
        · rw [← hc0] at this; exact this
        · rw [← hc0] at h9
          obtain ⟨id, o, e1, _⟩ := h9
          have : c.σ id = some o := e1
          rw [hrel.σ] at this; cases this
    have b2 : Below c.w.heap.size c4.w c14.w := by
      rw [← w5]
      exact ⟨gD.osE, gD.tape, gD.out, gD.size, fun b' hb' => gD.stay b' (by rw [w5]; omega) (T5' b' hb') (fun _ => Y5 b')⟩
    exact (b1.trans b2).trans hbel
end Go.Proofs.Ytfoeddmbhmfjcaa
/- A cleaning's record as a row's argument. -/
namespace Go.Proofs.Ytfoeddmbhmfjcaa
open Go.RowKit
set_option maxRecDepth 100000
theorem rdt_rec : Rd Try.prog 71 (fun _ (r : Int × Int) => [.v (.int .i64 r.1), .v (.int .i64 r.2)]) (fun _ => True) :=
  (rd_struct Try.underlying71 (by kernel_rfl) (RdF.cons (c := 1) rfl (by kernel_rfl) rdt_num (RdF.cons (c := 1) rfl (by kernel_rfl) rdt_num RdF.nil))).map
    (fun x => (x.1, x.2.1)) (fun b => (b.1, b.2, ())) (fun fr b => rfl) (fun fr b => rfl) fun a h => trivial
theorem open_rec {H : Type} {enc : TypeId × Value → H} {W : World} {base : Nat} {v : Value} {d : DataW H} {ps : List MemPlace} (hv : Value.okWide Try.prog W .any base 71 v) (h : DataW.Trod enc Try.prog W 0 (fun _ => true) true 71 v d ps)
    (hw : (d.weights Try.prog 71).all (· ≤ reachBytes) = true) : ∃ a b, VR (cx0 W) (aRec a b) v := by
  simp only [Value.okWide, Try.underlying71] at hv
  obtain ⟨cs, rfl, _, _⟩ := hv
  obtain ⟨fuel, h⟩ := h
  obtain ⟨⟨a, b⟩, h1, h2⟩ := rdt_rec.rd h hw
  refine ⟨a, b, ?_⟩
  rw [aRec, VR]
  exact ⟨_, rfl, h2⟩
end Go.Proofs.Ytfoeddmbhmfjcaa
