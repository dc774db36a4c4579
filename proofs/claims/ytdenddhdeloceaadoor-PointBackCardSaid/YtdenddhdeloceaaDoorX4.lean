/- Merged texts: WL, WM, WN, WO, KJ, WP, WQ, WR, WS, WT, WU, WW, WX, KK, WY, WZ, RB, Y0, Y2, Y3. -/
import Derived.Test.YtdenddhdeloceaaDoorX3
import Derived.Shelf.Abstract
import Derived.Shelf.RegionOpen
import Derived.WalkKit
import Derived.OwnWalkIn
import Derived.TacticsInMore
import Derived.LoopNIn
import Derived.LoopIn
import Derived.Lib.Hide
import Derived.Test.YtdenddhdeloceaaDoorX1
import Derived.Test.YtdenddhdeloceaaDoorProg
import Derived.Test.YtdenddhdeloceaaDoorRows
import Derived.LaidLaws
import Derived.LaidHandle
import Derived.LaidMore
import Derived.Lay
import Derived.Stop.Joined
set_option linter.unusedSimpArgs false
set_option linter.unusedVariables false
/- Contract: disk.land, of a flush. -/
namespace Go.Proofs.YtdenddhdeloceaaDoor
open Go.RowKit
set_option maxRecDepth 100000
abbrev fixD (d : Dk) : List (Nat × AObj) := [(0, zP), (1, .row true 39 [.os 2 0 d.sectors.length 1, fWrs true d.cache]), (2, .row true 22 (osR 900001 d.sectors.length (gS d)))]
theorem fam_land (d : Dk) {N : Nat} {l : List (Nat × AV)} {env : Nat → AV} {σ : Heap} {nx : Nat} {v w : Value} {a0 a1 a2 : Nat} (g : Nat → List Int) (hd : d.sectors.length ≤ 2048) (hne : a0 ≠ a1 ∧ a0 ≠ a2 ∧ a1 ≠ a2)
    (ha : ∀ a ∈ [a0, a1, a2], a < 900001 ∨ 903000 ≤ a)
    (hl : l = [(1, .fn 42 []), (4, .op 0 0), (7, .op 1 0), (19, fWrs true d.cache), (20, .v v), (21, .v w)])
    (e1 : env 1 = .fn 42 []) (e4 : env 4 = .op a0 0) (e7 : env 7 = .op a1 0) (e19 : env 19 = fWrs true d.cache) (e20 : env 20 = .v v) (e21 : env 21 = .v w)
    (s0 : σ a0 = some zP) (s1 : σ a1 = some (.row true 39 [.os a2 0 d.sectors.length 1, fWrs true d.cache])) (s2 : σ a2 = some (.row true 22 (osR 900001 d.sectors.length (gS d))))
    (sF : ∀ j, j < d.sectors.length → σ (900001 + j) = some (.row true 5 (eB (g j)))) :
    Weak N 0 ⟨env, σ, nx⟩ ⟨envOf l, heapOf (fixD d ++ famL 900001 d.sectors.length (fun j => .row true 5 (eB (g j)))), 2000000⟩ := by
  have hA0 := ha a0 (by simp)
  have hA1 := ha a1 (by simp)
  have hA2 := ha a2 (by simp)
  have hre : (([(a0, 0), (a1, 1), (a2, 2)] : List (Nat × Nat)).map (·.1)).Nodup := by simp; exact ⟨⟨hne.1, hne.2.1⟩, hne.2.2⟩
  have hsep : ∀ p ∈ ([(a0, 0), (a1, 1), (a2, 2)] : List (Nat × Nat)), (p.1 < 900001 ∨ 900001 + d.sectors.length ≤ p.1) ∧ (p.2 < 900001 ∨ 900001 + d.sectors.length ≤ p.2) := by
    intro p hp; simp at hp; rcases hp with rfl | rfl | rfl <;> simp <;> omega
  have hn : (([(a0, 0), (a1, 1), (a2, 2)] ++ famR 900001 d.sectors.length : List (Nat × Nat)).map (·.1)).Nodup := by
    rw [List.map_append, famR_1, List.nodup_append]
    refine ⟨hre, range_nodup 900001 _, fun a ha c hc e => ?_⟩
    rw [mem_rangeb] at hc
    obtain ⟨p, hp, rfl⟩ := List.mem_map.1 ha
    have := (hsep p hp).1; omega
  generalize hR : ([(a0, 0), (a1, 1), (a2, 2)] ++ famR 900001 d.sectors.length : List (Nat × Nat)) = R at hn
  have q0 : rn R a0 = 0 := rn_mem (p := (a0, 0)) (by rw [← hR]; simp) hn
  have q1 : rn R a1 = 1 := rn_mem (p := (a1, 1)) (by rw [← hR]; simp) hn
  have q2 : rn R a2 = 2 := rn_mem (p := (a2, 2)) (by rw [← hR]; simp) hn
  have qF : ∀ j, j < d.sectors.length → rn R (900001 + j) = 900001 + j := fun j hj => rn_mem (p := (900001 + j, 900001 + j)) (by rw [← hR]; exact List.mem_append_right _ (famR_mem.2 ⟨rfl, by simp only; omega, by simp only; omega⟩)) hn
  have i0 : a0 ∈ R.map (·.1) := by rw [← hR]; simp
  have i1 : a1 ∈ R.map (·.1) := by rw [← hR]; simp
  have i2 : a2 ∈ R.map (·.1) := by rw [← hR]; simp
  have iF : ∀ j, j < d.sectors.length → 900001 + j ∈ R.map (·.1) := fun j hj => by
    rw [← hR, List.map_append, famR_1]; exact List.mem_append_right _ (mem_rangeb.2 ⟨by omega, by omega⟩)
  refine Weak.toF (N := N) (m := 0) (s := ⟨env, σ, nx⟩) [(a0, 0), (a1, 1), (a2, 2)] 900001 d.sectors.length l (fixD d) (fun j => .row true 5 (eB (g j))) 2000000
    hre (by simp) (by intro p hp; simp at hp; rcases hp with rfl | rfl | rfl <;> simp) (by omega) (by omega) (by omega) hsep ?_ ?_ ?_
  · rw [hR]
    intro t x hv
    show Al _ (env t) ∧ Imp (ren (rn R) (env t)) x
    rw [hl] at hv
    simp only [List.mem_cons, Prod.mk.injEq, List.not_mem_nil, or_false] at hv
    rcases hv with ⟨rfl, rfl⟩ | ⟨rfl, rfl⟩ | ⟨rfl, rfl⟩ | ⟨rfl, rfl⟩ | ⟨rfl, rfl⟩ | ⟨rfl, rfl⟩
    · rw [e1]; exact ⟨trivial, Imp.refl _⟩
    · rw [e4]; exact ⟨i0, by show Imp (.op (rn R a0) 0) _; rw [q0]; exact Imp.refl _⟩
    · rw [e7]; exact ⟨i1, by show Imp (.op (rn R a1) 0) _; rw [q1]; exact Imp.refl _⟩
    · rw [e19]; exact ⟨al_Wrs _, by show Imp (.fs true (renL (rn R) (eWrs true d.cache)) d.cache.length) _; rw [ren_Wrs]; exact Imp.refl _⟩
    · rw [e20]; exact ⟨trivial, Imp.refl _⟩
    · rw [e21]; exact ⟨trivial, Imp.refl _⟩
  · rw [hR]
    intro j o hj
    simp only [fixD, List.mem_cons, Prod.mk.injEq, List.not_mem_nil, or_false] at hj
    rcases hj with ⟨rfl, rfl⟩ | ⟨rfl, rfl⟩ | ⟨rfl, rfl⟩
    · exact ⟨a0, _, _, _, by simp, s0, ⟨trivial, trivial, trivial⟩, rfl⟩
    · exact ⟨a1, _, _, _, by simp, s1, ⟨i2, al_Wrs _, trivial⟩, by simp [renL, ren, q2, fWrs, ren_Wrs]⟩
    · exact ⟨a2, _, _, _, by simp, s2, al_osR iF, by rw [renL_osR qF]⟩
  · intro j hj
    exact ⟨true, _, _, sF j hj, al_B _, rfl⟩
theorem landL_p {p : List Int → Prop} : ∀ (l : List (Bool × Wr)) (ss : List (List Int)), (∀ t ∈ ss, p t) → (∀ q ∈ l, p q.2.data) → ∀ t ∈ landL ss l, p t
  | [], ss, h, _, t, ht => h t ht
  | (k, w) :: l, ss, h, hq, t, ht => by
    rw [landL] at ht
    refine landL_p l _ ?_ (fun q hx => hq q (by simp [hx])) t ht
    intro x hx
    split at hx
    · rcases List.mem_or_eq_of_mem_set hx with h1 | h1
      · exact h x h1
      · rw [h1]; exact hq (k, w) (by simp)
    · exact h x hx
def zsF (d : Dk) : List (Bool × Wr) := (List.replicate d.cache.length true).zip d.cache
def secF (d : Dk) (i j : Nat) : List Int := ((landL d.sectors ((zsF d).take i))[j]?).getD []
abbrev L_ld (d : Dk) (i : Nat) : ASt := ⟨envOf [(1, .fn 42 []), (4, .op 0 0), (7, .op 1 0), (19, fWrs true d.cache), (20, .v (.int .i64 d.cache.length)), (21, .v (.int .i64 i))],
  heapOf (fixD d ++ famL 900001 d.sectors.length (fun j => .row true 5 (eB (secF d i j)))), 2000000⟩
theorem secF_len {d : Dk} (h : okD d) (i : Nat) {j : Nat} (hj : j < d.sectors.length) : (secF d i j).length = 64 := by
  have hl := landL_len ((zsF d).take i) d.sectors
  unfold secF
  rw [List.getElem?_eq_getElem (by omega)]
  refine landL_p (p := fun t => t.length = 64) _ _ h.secs (fun q hq => ?_) _ (List.getElem_mem _)
  have h1 := (List.of_mem_zip (List.mem_of_mem_take hq)).2
  exact Classical.byContradiction fun hx => h.cache q.2 h1 (.inr (.inr hx))
theorem fsR_land (d : Dk) (hz : (zsF d).take d.cache.length = zsF d) : fsR d.sectors.length (fun j => eB (secF d d.cache.length j)) = eL true (flushD d).sectors := by
  have hl := landL_len (zsF d) d.sectors
  have hfl : (flushD d).sectors = landL d.sectors (zsF d) := rfl
  rw [hfl]
  apply List.ext_getElem?
  intro j
  by_cases hj : j < d.sectors.length
  · simp only [fsR, eL, List.getElem?_map, List.getElem?_range hj, Option.map_some, secF, hz, List.getElem?_eq_getElem (show j < (landL d.sectors (zsF d)).length by omega), len_B]
    rfl
  · have h1 : (fsR d.sectors.length fun j => eB (secF d d.cache.length j))[j]? = none := List.getElem?_eq_none (by simp [fsR]; omega)
    have h2 : (eL true (landL d.sectors (zsF d)))[j]? = none := List.getElem?_eq_none (by rw [len_L]; omega)
    rw [h1, h2]
theorem osR_len {b k : Nat} {g g' : Nat → List AV} (h : ∀ j, j < k → (g j).length = (g' j).length) : osR b k g = osR b k g' := by
  unfold osR
  refine List.map_congr_left fun j hj => ?_
  rw [List.mem_range] at hj
  rw [h j hj]
theorem fam_end {n : Nat} {g : Nat → List AV} {N : Nat} {env : Nat → AV} {σ : Heap} {nx : Nat} {v : Value} (hn : n ≤ 2048) (hpu : ∀ j, PuL (g j)) (e4 : env 4 = .op 0 0) (e5 : env 5 = .v v)
    (s0 : σ 0 = some (.row true 39 [.os 2 0 n 1, .v (.slice none 0 0)])) (s2 : σ 2 = some (.row true 22 (osR 900001 n g))) (sF : ∀ j, j < n → σ (900001 + j) = some (.row true 5 (g j))) :
    Weak N 0 ⟨env, σ, nx⟩ ⟨envOf [(4, .op 0 0), (5, .v v)], heapOf [(0, .row true 39 [.os 2 0 n 1, .v (.slice none 0 0)]), (2, .row true 22 (fsR n g))], 2000000⟩ := by
  have hsep : ∀ p ∈ ([(0, 0), (2, 2)] : List (Nat × Nat)), (p.1 < 900001 ∨ 900001 + n ≤ p.1) ∧ (p.2 < 900001 ∨ 900001 + n ≤ p.2) := by
    intro p hp; simp at hp; rcases hp with rfl | rfl <;> simp
  have hnd : (([(0, 0), (2, 2)] ++ famR 900001 n : List (Nat × Nat)).map (·.1)).Nodup := by
    rw [List.map_append, famR_1, List.nodup_append]
    refine ⟨by decide, range_nodup 900001 _, fun a ha c hc e => ?_⟩
    rw [mem_rangeb] at hc
    obtain ⟨p, hp, rfl⟩ := List.mem_map.1 ha
    have := (hsep p hp).1; omega
  generalize hR : ([(0, 0), (2, 2)] ++ famR 900001 n : List (Nat × Nat)) = R at hnd
  have q0 : rn R 0 = 0 := rn_mem (p := (0, 0)) (by rw [← hR]; simp) hnd
  have q2 : rn R 2 = 2 := rn_mem (p := (2, 2)) (by rw [← hR]; simp) hnd
  have qF : ∀ j, j < n → rn R (900001 + j) = 900001 + j := fun j hj => rn_mem (p := (900001 + j, 900001 + j)) (by rw [← hR]; exact List.mem_append_right _ (famR_mem.2 ⟨rfl, by simp only; omega, by simp only; omega⟩)) hnd
  have i0 : 0 ∈ R.map (·.1) := by rw [← hR]; simp
  have i2 : 2 ∈ R.map (·.1) := by rw [← hR]; simp
  have iF : ∀ j, j < n → 900001 + j ∈ R.map (·.1) := fun j hj => by
    rw [← hR, List.map_append, famR_1]; exact List.mem_append_right _ (mem_rangeb.2 ⟨by omega, by omega⟩)
  refine Weak.trans (Weak.toF (N := N) (m := 0) (s := ⟨env, σ, nx⟩) [(0, 0), (2, 2)] 900001 n [(4, .op 0 0), (5, .v v)] [(0, .row true 39 [.os 2 0 n 1, .v (.slice none 0 0)]), (2, .row true 22 (osR 900001 n g))] (fun j => .row true 5 (g j)) 2000000
    (by decide) (by decide) (by intro p hp; simp at hp; rcases hp with rfl | rfl <;> simp) (by omega) (by omega) (by omega) hsep ?_ ?_ ?_) ?_
  · rw [hR]
    intro t x hv
    show Al _ (env t) ∧ Imp (ren (rn R) (env t)) x
    simp only [List.mem_cons, Prod.mk.injEq, List.not_mem_nil, or_false] at hv
    rcases hv with ⟨rfl, rfl⟩ | ⟨rfl, rfl⟩
    · rw [e4]; exact ⟨i0, by show Imp (.op (rn R 0) 0) _; rw [q0]; exact Imp.refl _⟩
    · rw [e5]; exact ⟨trivial, Imp.refl _⟩
  · rw [hR]
    intro j o hj
    simp only [List.mem_cons, Prod.mk.injEq, List.not_mem_nil, or_false] at hj
    rcases hj with ⟨rfl, rfl⟩ | ⟨rfl, rfl⟩
    · exact ⟨0, _, _, _, by simp, s0, ⟨i2, trivial, trivial⟩, by simp [renL, ren, q2]⟩
    · exact ⟨2, _, _, _, by simp, s2, al_osR iF, by rw [renL_osR qF]⟩
  · intro j hj
    exact ⟨true, _, _, sF j hj, hpu j, rfl⟩
  · have hF := Weak.freezeF (N := N) (m := 0) 900001 [(4, .op 0 0), (5, .v v)] [(0, .row true 39 [.os 2 0 n 1, .v (.slice none 0 0)])] 2 22 5 true g 2000000 (by simp) (by decide) (by intro j o hj; simp at hj; obtain ⟨rfl, rfl⟩ := hj; rfl) rfl (by intro t x hv; simp at hv; rcases hv with ⟨rfl, rfl⟩ | ⟨rfl, rfl⟩ <;> rfl) n []
    simp only [List.append_nil] at hF
    exact hF
set_option maxHeartbeats 2000000 in
theorem land_flush (fr : Bool) (d : Dk) (nb : Nat) (h : okD d) : ASound Tryd.prog 41 [aDk fr d, .fn 42 []] nb (.ret (.tup [aDk true (flushD d), .v (.int .i64 0)]) []) := by
  refine ok_41.sound (by simp) ⟨al_aDk d, trivial, trivial⟩ ?_
  have hf := h.few
  have hc := fun nb => dcheck_spec fr d nb (by omega)
  rw [dkE_ok h] at hc
  have hl := clone_land fr d
  simp only [aDk, fL, fWrs] at hc hl
  simp only [ac_41, TT, ↓reduceIte, Nat.reduceEqDiff, Nat.reduceAdd, Nat.reduceMul, reduceCtorEq, Nat.reduceLeDiff]
  refine ⟨_, hc _, ?_⟩
  simp only [not_true_eq_false, TT, ↓reduceIte, Nat.reduceEqDiff, Nat.reduceAdd, Nat.reduceMul, reduceCtorEq, Nat.reduceLeDiff]
  refine ⟨_, hl _ h, ?_⟩
  simp only [TT, ↓reduceIte, Nat.reduceEqDiff, Nat.reduceAdd, Nat.reduceMul, reduceCtorEq, Nat.reduceLeDiff]
  have hne : 0 < d.sectors.length := by omega
  refine AWc.family (L_ld d) (fun i => i ≤ d.cache.length) (fun i => d.cache.length - i) 0 (Nat.zero_le _) ?_ ?_
  · simp only [L_ld]
    refine fam_land d (a0 := 100000) (a1 := 1000000) (a2 := 900000) (secF d 0) (by omega) (by decide) (by intro a ha; simp at ha; omega) rfl (by simp [ET]) (by simp [ET]) (by simp [ET]) (by simp [ET, fWrs]) (by simp [ET]) (by simp [ET]) ?_ ?_ ?_ ?_
    · simp only [s_put1, newW, app_rows]
      rw [if_neg (by decide), if_neg (by decide), if_neg (by decide), if_pos True.intro]
    · simp only [s_put1]
      rw [if_pos True.intro]; rfl
    · simp only [s_put1, newW, app_rows]
      rw [if_neg (by decide), if_neg (by decide), if_pos (by decide)]; rfl
    · intro j hj
      rw [s_put1, if_neg (by omega), s_put1, if_neg (by omega), newW, app_rows, if_pos (by omega), show 900001 + j - 900000 = j + 1 from by omega, List.getElem?_cons_succ, famW, List.getElem?_map, List.getElem?_range hj]
      have hz : eB (secF d 0 j) = gS d j := by simp only [secF, List.take_zero, landL, gS]
      rw [hz]; rfl
  · intro i hi
    have hfx : ∀ j, heapOf (fixD d) (900001 + j) = none := fun j => by
      simp only [fixD, heapOf]
      rw [if_neg (by omega), if_neg (by omega), if_neg (by omega)]
    have l0 : heapOf (fixD d ++ famL 900001 d.sectors.length (fun j => .row true 5 (eB (secF d i j)))) 0 = some zP := by rw [heapOf_append]; simp [heapOf]
    have l1 : heapOf (fixD d ++ famL 900001 d.sectors.length (fun j => .row true 5 (eB (secF d i j)))) 1 = some (.row true 39 [.os 2 0 d.sectors.length 1, .fs true (eWrs true d.cache) d.cache.length]) := by rw [heapOf_append]; simp [heapOf, fWrs]
    have l2 : heapOf (fixD d ++ famL 900001 d.sectors.length (fun j => .row true 5 (eB (secF d i j)))) 2 = some (.row true 22 (osR 900001 d.sectors.length (gS d))) := by rw [heapOf_append]; simp [heapOf]
    have lF : ∀ j, j < d.sectors.length → heapOf (fixD d ++ famL 900001 d.sectors.length (fun j => .row true 5 (eB (secF d i j)))) (900001 + j) = some (.row true 5 (eB (secF d i j))) := fun j hj => by
      rw [heapOf_append, hfx j]
      simp only
      rw [s_heapFam, if_pos (by omega), show 900001 + j - 900001 = j from by omega]
    simp only [L_ld, fWrs]
    generalize hH : heapOf (fixD d ++ famL 900001 d.sectors.length (fun j => .row true 5 (eB (secF d i j)))) = H at l0 l1 l2 lF
    by_cases hlt : i < d.cache.length
    · obtain ⟨w, hw, e1, e0⟩ := lt_at hlt
      obtain ⟨g1, g2⟩ := get_Wrs (fr := true) hw
      have hbw := h.cache w (List.mem_of_getElem? hw)
      have s1 : 0 ≤ w.sec := Classical.byContradiction fun hx => hbw (.inl (by omega))
      have s2 : w.sec < (d.sectors.length : Int) := Classical.byContradiction fun hx => hbw (.inr (.inl (by omega)))
      obtain ⟨k, hk⟩ := Int.eq_ofNat_of_zero_le s1
      have hkl : k < d.sectors.length := by omega
      have c1 : ((0 : Int) ≤ (k : Int) ∧ (k : Int) < (d.sectors.length : Int)) = True := eq_true ⟨by omega, by omega⟩
      have hat := allTrue_spec (i : Int)
      have hol : (osR 900001 d.sectors.length (gS d))[k]? = some (.os (900001 + k) 0 64 1) := by
        have hs := h.secs _ (List.getElem_mem hkl)
        simp [osR, hkl, gS, len_B, hs]
      have lk := lF k hkl
      simp only [e1, e0, g1, g2, l1, hk, Int.toNat_natCast, TT, ↓reduceIte, Nat.reduceEqDiff, Nat.reduceAdd, Nat.reduceMul, reduceCtorEq, Nat.reduceLeDiff]
      refine ⟨_, _, _, rfl, hat _, ?_⟩
      have hdl : w.data.length = 64 := Classical.byContradiction fun hx => hbw (.inr (.inr hx))
      have hq : (900001 + k = 2400000) = False := eq_false (by omega)
      have hsl : (secF d i k).length = 64 := secF_len h i hkl
      have hsn : setN (eB (secF d i k)) 0 (eB w.data) = eB w.data := by
        rw [setN_B (by omega), hdl, List.drop_of_length_le (by omega), List.append_nil]
      have h64 : Nat.min 64 64 = 64 := rfl
      have htk : List.take 64 (eB w.data) = eB w.data := List.take_of_length_le (by rw [len_B, hdl]; exact Nat.le_refl _)
      simp only [l1, l2, c1, hol, lk, hk, hq, len_B, hdl, hsl, h64, htk, hsn, Int.toNat_natCast, Nat.zero_add, TT, ↓reduceIte, Nat.reduceEqDiff, Nat.reduceAdd, Nat.reduceMul, reduceCtorEq, Nat.reduceLeDiff]
      rw [if_pos (by decide)]
      refine ⟨by rfl, ?_⟩
      refine famC_next (i + 1) (by omega) (by omega) ?_
      have w1 : IntKind.i64.wrap ((i : Int) + 1) = ((i + 1 : Nat) : Int) := by rw [wrap64 (by omega)]; omega
      have hz : (zsF d)[i]? = some (true, w) := zip_at (List.getElem?_replicate_of_lt hlt) hw
      have hsn1 : ∀ j, j < d.sectors.length → secF d (i + 1) j = if j = k then w.data else secF d i j := fun j hj => by
        have hll := landL_len ((zsF d).take i) d.sectors
        unfold secF
        rw [landL_snoc hz]
        simp only [if_true, hk, Int.toNat_natCast]
        rw [List.getElem?_set]
        by_cases hjk : k = j
        · subst hjk; rw [if_pos rfl, if_pos (by omega), if_pos rfl]; rfl
        · rw [if_neg hjk, if_neg (fun e => hjk e.symm)]
      rw [w1]
      refine fam_land d (a0 := 0) (a1 := 1) (a2 := 2) (secF d (i + 1)) (by omega) (by decide) (by intro a ha; simp at ha; omega) rfl (by simp [ET]) (by simp [ET]) (by simp [ET]) (by simp [ET, fWrs]) (by simp [ET]) (by simp [ET]) ?_ ?_ ?_ ?_
      · rw [s_put1, if_neg (by omega), s_put1, if_neg (by omega), s_put1, if_neg (by omega)]; exact l0
      · rw [s_put1, if_neg (by omega), s_put1, if_neg (by omega), s_put1, if_neg (by omega)]; exact l1
      · rw [s_put1, if_neg (by omega), s_put1, if_neg (by omega), s_put1, if_neg (by omega)]; exact l2
      · intro j hj
        rw [hsn1 j hj, s_put1]
        by_cases hjk : j = k
        · rw [if_pos (by omega), if_pos hjk]
        · rw [if_neg (by omega), if_neg hjk, s_put1, if_neg (by omega), s_put1, if_neg (by omega)]
          exact lF j hj
    · obtain rfl : i = d.cache.length := by omega
      have e1 : ¬ ((d.cache.length : Int) < (d.cache.length : Int)) := by omega
      have l0' : H 0 = some (.row true 39 [.v (.slice none 0 0), .v (.slice none 0 0)]) := l0
      simp only [e1, l0', l1, TT, ↓reduceIte, Nat.reduceEqDiff, Nat.reduceAdd, Nat.reduceMul, reduceCtorEq, Nat.reduceLeDiff]
      have hzl : (zsF d).take d.cache.length = zsF d := List.take_of_length_le (by simp [zsF])
      have hos : osR 900001 d.sectors.length (gS d) = osR 900001 d.sectors.length (fun j => eB (secF d d.cache.length j)) := osR_len fun j hj => by
        rw [len_B, secF_len h _ hj]
        simp only [gS, len_B, List.getElem?_eq_getElem hj]
        exact h.secs _ (List.getElem_mem hj)
      rw [hos] at l2
      have hfin := fsR_land d hzl
      have hcl : (flushD d).sectors.length = d.sectors.length := landL_len _ _
      generalize hg : (fun j => eB (secF d d.cache.length j)) = g at l2 hfin
      have lG : ∀ j, j < d.sectors.length → H (900001 + j) = some (.row true 5 (g j)) := fun j hj => by rw [lF j hj, ← hg]
      have hpu : ∀ j, PuL (g j) := fun j => by rw [← hg]; exact al_B _
      refine Ends.weak (fam_end (n := d.sectors.length) (g := g) (v := .int .i64 0) (by omega) hpu (by simp [ET]) (by simp [ET]) ?_ ?_ ?_) ?_
      · rw [s_put1, if_pos rfl]
      · rw [s_put1, if_neg (by decide), s_put1, if_neg (by decide)]; exact l2
      · intro j hj
        rw [s_put1, if_neg (by omega), s_put1, if_neg (by omega)]; exact lG j hj
      rw [hfin]
      have hfd : flushD d = ⟨(flushD d).sectors, []⟩ := rfl
      have htk : List.take d.sectors.length (eL true (flushD d).sectors) = eL true (flushD d).sectors := List.take_of_length_le (by rw [len_L, hcl]; exact Nat.le_refl _)
      have himp := imp_crash (flushD d).sectors
      rw [← hfd] at himp
      simp only [aDk, fL, fWrs] at himp
      refine Ends.weak (Weak.freezeC 2 rfl (l := [(4, .op 0 0), (5, .v (.int .i64 0))]) (h := [(0, .row true 39 [.fs true (eL true (flushD d).sectors) (flushD d).sectors.length, .v (.slice none 0 0)])]) ?_ ?_) (Ends.imp (r0 := .tup [.agg [.fs true (eL true (flushD d).sectors) (flushD d).sectors.length, .v (.slice none 0 0)], .v (.int .i64 0)]) (.inr rfl) (by simp [ET]) ⟨⟨al_L _, trivial, trivial⟩, trivial, trivial⟩ himp)
      · simp [WT]
      · simp [WT, htk, hcl]
end Go.Proofs.YtdenddhdeloceaaDoor
/- Contract: disk.Flush. -/
namespace Go.Proofs.YtdenddhdeloceaaDoor
open Go.RowKit
set_option maxRecDepth 100000
theorem flush_spec (fr : Bool) (d : Dk) (nb : Nat) (h : okD d) : ASound Tryd.prog 23 [aDk fr d] nb (.ret (.tup [aDk true (flushD d), .v (.int .i64 0)]) []) := by
  refine ok_23.sound (by simp) ⟨al_aDk d, trivial⟩ ?_
  have hc := land_flush fr d
  simp only [aDk, fL, fWrs] at hc
  simp only [ac_23, TT, ↓reduceIte, Nat.reduceEqDiff, Nat.reduceAdd, Nat.reduceMul, reduceCtorEq, Nat.reduceLeDiff]
  refine ⟨_, hc _ h, ?_⟩
  simp only [TT, ↓reduceIte, Nat.reduceEqDiff, Nat.reduceAdd, Nat.reduceMul, reduceCtorEq, Nat.reduceLeDiff]
  exact Ends.data (r := .tup [aDk true (flushD d), .v (.int .i64 0)]) (.inr rfl) (by simp [ET, aDk, fL, fWrs]) ⟨al_aDk _, trivial, trivial⟩
end Go.Proofs.YtdenddhdeloceaaDoor
/- slices.Chunk of octets: the iterator, and what it yields. -/
namespace Go.Proofs.YtdenddhdeloceaaDoor
open Go.RowKit Go.Shelf
attribute [local go_sem] Oper.semAt_some
set_option maxRecDepth 100000
theorem chunk_spec (fr : Bool) (cs : List AV) (len : Nat) (n : Int) (hn : 1 ≤ n) (hp : PuL cs) (nb : Nat) :
    ASound Tryd.prog 62 [.fs fr cs len, .v (.int .i64 n)] nb (.ret (.fn 80 [.fp true [.fs fr cs len] 0, .fp true [.v (.int .i64 n)] 0]) []) := by
  refine ok_62.sound (by simp) ⟨hp, trivial, trivial⟩ ?_
  have f1 : ¬ n < 1 := by omega
  simp only [ac_62, f1, TT, ↓reduceIte, Nat.reduceEqDiff, Nat.reduceAdd, Nat.reduceMul, reduceCtorEq, Nat.reduceLeDiff]
  refine Ends.weak (Weak.fnData 4 80 [.op 0 0, .op 100000 0] [.fp true [.fs fr cs len] 0, .fp true [.v (.int .i64 n)] 0] (by simp [s_envOf]) rfl ?_) (Ends.data (.inr rfl) (by simp [ET]) ⟨⟨hp, trivial⟩, ⟨trivial, trivial⟩, trivial⟩)
  intro j x' hj
  match j, hj with
  | 0, hj => cases hj; exact ⟨_, rfl, .inr ⟨0, true, 22, [.fs fr cs len], 0, rfl, by simp [WT], ⟨hp, trivial⟩, rfl⟩⟩
  | 1, hj => cases hj; exact ⟨_, rfl, .inr ⟨100000, true, 3, [.v (.int .i64 n)], 0, rfl, by simp [WT], ⟨trivial, trivial⟩, rfl⟩⟩
  | j + 2, hj => simp at hj
/-- how many parts -/
def chK (len n : Nat) : Nat := (len + n - 1) / n
theorem chK_lt {len n j : Nat} (hn : 1 ≤ n) : j < chK len n ↔ j * n < len := by
  unfold chK
  rw [Nat.lt_div_iff_mul_lt (by omega)]
  omega
set_option maxHeartbeats 4000000 in
theorem chunk_in (l : Nat) (p1 p2 : Addr) (A : Option Addr) (len cap n K : Nat) (hK : K = chK len n) (hn : 1 ≤ n) (hsz : len + n ≤ 9223372036854775807) (hcap : len ≤ cap) (hA : len ≠ 0 → ∃ b off, A = some ⟨b, off, none⟩)
    (J Jx : List (_root_.Fin K) → World → Prop) (Kp : World → World → Prop) (hKp : ∀ B C, Kp B C → C.cell? p1 = B.cell? p1 ∧ C.cell? p2 = B.cell? p2)
    (W : World) (hJ : AbidesFrom W.heap.size J) (hJx : AbidesFrom W.heap.size Jx)
    (hY : ∀ pre (x : _root_.Fin K) W1, J pre W1 → pre.length < K → YieldAt Fence.wide 1 Tryd.prog l #[.slice (A.map (fun a => { a with off := a.off + x.1 * n })) (min n (len - x.1 * n)) (min n (len - x.1 * n))] W1 fun e W' => (e = .returned (.bool true) ∧ J (pre ++ [x]) W' ∧ Kp W1 W') ∨ (e = .returned (.bool false) ∧ Jx (pre ++ [x]) W'))
    (h1 : W.cell? p1 = some (.slice A len cap)) (h2 : W.cell? p2 = some (.int .i64 n)) (hj : J [] W) :
    CallsIn Fence.wide 2 Tryd.prog 80 #[.func (.yield l) #[] #[], .pointer (some p1), .pointer (some p2)] W fun e W' => (∃ v, e = .returned v) ∧
      ((∃ xs, xs = List.finRange K ∧ J xs W') ∨ (∃ pre, (∃ k, k < K ∧ pre = (List.finRange K).take (k + 1)) ∧ Jx pre W')) := by
  subst hK
  have H1 := Lib.hid h1
  have H2 := Lib.hid h2
  have HY := Lib.hid hY
  have HJ := Lib.hid hJ
  have Hj := Lib.hid hj
  have HK := Lib.hid hKp
  clear h1 h2 hY hJ hJx hj hKp
  refine callsIn_of_wp Tryd.func80 rfl trivial ?_ rfl
  simp only [Tryd.ntmps80, List.size_toArray, List.length_cons, List.length_nil, Nat.reduceAdd, Nat.reduceSub, Array.replicate_succ, Array.replicate_zero, List.push_toArray, List.append_toArray, List.nil_append, List.cons_append]
  gi_wp2
  gi_loopw [4] (fun i wr => ∃ j : Nat, j ≤ chK len n ∧ i = .int .i64 ((j * n : Nat) : Int) ∧ Hid (J ((List.finRange (chK len n)).take j) wr) ∧ Hid (wr.cell? p1 = some (.slice A len cap)) ∧ Hid (wr.cell? p2 = some (.int .i64 n))) (fun i _ => len + n - (intOf i).toNat)
  case atStart => exact ⟨0, Nat.zero_le _, by simp, Hj, H1, H2⟩
  case round =>
    obtain ⟨j, hjk, rfl, HJs, G1, G2⟩ := hrel
    have y1 := G1.out
    have y2 := G2.out
    obtain ⟨q, hq⟩ : ∃ q, q = j * n := ⟨_, rfl⟩
    have HQ := Lib.hid hq
    rw [← hq]
    by_cases hlt : q < len
    · obtain ⟨b, off, rfl⟩ := hA (by omega)
      have e1 : decide ((q : Int) < (len : Int)) = true := by simpa using hlt
      have hq63 : q ≤ 9223372036854775807 := by omega
      clear hq hA
      gi_wp2_with fail
      have hjlt : j < chK len n := (chK_lt hn).2 (by rw [← HQ.out]; exact hlt)
      obtain ⟨x, hxv, hxl⟩ : ∃ x : _root_.Fin (chK len n), x.1 = j ∧ (List.finRange (chK len n)).take (j + 1) = (List.finRange (chK len n)).take j ++ [x] :=
        ⟨⟨j, hjlt⟩, rfl, by rw [List.take_succ_eq_append_getElem (by simpa using hjlt)]; simp⟩
      have HX := Lib.hid hxl
      have HL := Lib.hid hjlt
      have hjd : J ((List.finRange (chK len n)).take j) wr.drew := HJ.out _ _ _ none HJs.out ⟨rfl, rfl, rfl, Nat.le_refl _, fun _ _ _ => rfl⟩ (fun r e => by cases e)
      obtain ⟨fn, tmps, assign, body, hy, hR⟩ := HY.out _ x wr.drew hjd (by simp; omega)
      dsimp only [Option.map_some] at hy
      rw [hxv, ← HQ.out] at hy
      have HR := Lib.hid hR
      have HYY := Lib.hid hy
      clear hjd hR hy hjlt hxl hxv
      gi_region
      all_goals gi_wp2_with fail
      case' inl => rw [show ((q : Int) + ((len - q : Nat) : Int)).toNat - q = min n (len - q) from by omega]
      case' inr => rw [show ((q : Int) + (n : Int)).toNat - q = min n (len - q) from by omega]
      all_goals rw [HYY.out, Oper.uponIn_round]
      all_goals refine ⟨fun h => (by cases h), HR.out.mono ?_⟩
      all_goals rintro e W3 (⟨rfl, hJ3, hk3⟩ | ⟨rfl, hJx3⟩)
      all_goals clear y1 y2
      · have k1 := Lib.hid ((HK.out _ _ hk3).1.trans G1.out)
        have k2 := Lib.hid ((HK.out _ _ hk3).2.trans G2.out)
        have y2 := k2.out
        have HJ3 := Lib.hid hJ3
        clear hJ3 hk3
        gi_wp2_with fail
        go_roundw
        case rel => exact ⟨j + 1, HL.out, by rw [HQ.out, Nat.succ_mul]; simp, by rw [HX.out]; exact HJ3.out, k1, k2⟩
        case measure => simp [intOf]; omega
      · gi_wp2_with fail
        refine bodyPost_ret (results_none rfl _ _ _) rfl ?_
        exact ⟨⟨_, rfl⟩, .inr ⟨_, ⟨j, HL.out, HX.out.symm⟩, hJx3⟩⟩
      · have k1 := Lib.hid ((HK.out _ _ hk3).1.trans G1.out)
        have k2 := Lib.hid ((HK.out _ _ hk3).2.trans G2.out)
        have y2 := k2.out
        have HJ3 := Lib.hid hJ3
        clear hJ3 hk3
        gi_wp2_with fail
        go_roundw
        case rel => exact ⟨j + 1, HL.out, by rw [HQ.out, Nat.succ_mul]; simp, by rw [HX.out]; exact HJ3.out, k1, k2⟩
        case measure => simp [intOf]; omega
      · gi_wp2_with fail
        refine bodyPost_ret (results_none rfl _ _ _) rfl ?_
        exact ⟨⟨_, rfl⟩, .inr ⟨_, ⟨j, HL.out, HX.out.symm⟩, hJx3⟩⟩
    · have e1 : decide ((q : Int) < (len : Int)) = false := by simpa using hlt
      have hjK : j = chK len n := by
        rcases Nat.lt_or_ge j (chK len n) with h | h
        · exact absurd ((chK_lt hn).1 h) (by rw [← hq]; exact hlt)
        · omega
      have HE := Lib.hid hjK
      clear hq hA hjK
      gi_wp2_with fail
      go_end0
      exact ⟨⟨_, rfl⟩, .inl ⟨_, rfl, by have := HJs.out; rwa [HE.out, List.take_of_length_le (by simp)] at this⟩⟩
/-- the parts -/
def chL (fr : Bool) (cs : List AV) (len n : Nat) : List (List AV) := (List.range (chK len n)).map fun i => [.fs fr ((cs.drop (i * n)).take (min n (len - i * n))) (min n (len - i * n))]
theorem chL_len (fr : Bool) (cs : List AV) (len n : Nat) : (chL fr cs len n).length = chK len n := by simp [chL]
theorem chL_get (fr : Bool) (cs : List AV) (len n : Nat) (i : _root_.Fin (chL fr cs len n).length) : (chL fr cs len n)[i] = [.fs fr ((cs.drop (i.1 * n)).take (min n (len - i.1 * n))) (min n (len - i.1 * n))] := by
  have : ∀ (k : Nat) (hk : k < (chL fr cs len n).length), (chL fr cs len n)[k] = [.fs fr ((cs.drop (k * n)).take (min n (len - k * n))) (min n (len - k * n))] := fun k hk => by simp [chL]
  exact this i.1 i.2
theorem chunk_iter (fr f1 f2 : Bool) (cs : List AV) (len n : Nat) (hn : 1 ≤ n) (hsz : len + n ≤ 9223372036854775807) (hl : cs.length = len) :
    IterA Tryd.prog 80 [.fp f1 [.fs fr cs len] 0, .fp f2 [.v (.int .i64 n)] 0] (chL fr cs len n) := by
  refine ⟨by rfl, fun c lb hr hv => ?_⟩
  simp only [VRt] at hv
  obtain ⟨u1, us, rfl, h1, u2, us2, rfl, h2, rfl⟩ := hv
  rw [VR] at h1 h2
  obtain ⟨b1, o1, rfl, hlt1, ho1, hm1⟩ := h1
  obtain ⟨b2, o2, rfl, hlt2, ho2, hm2⟩ := h2
  simp only [VRm, Nat.add_zero] at hm1 hm2
  obtain ⟨⟨v1, hc1, _, hv1⟩, _⟩ := hm1
  obtain ⟨⟨v2, hc2, _, hv2⟩, _⟩ := hm2
  have hv2' : v2 = .int .i64 n := hv2
  subst hv2'
  obtain ⟨A, k, rfl, hk, hA⟩ := hv1
  refine ⟨fun i => [.slice (A.map (fun a => { a with off := a.off + i.1 * n })) (min n (len - i.1 * n)) (min n (len - i.1 * n))], fun i => ?_, ?_⟩
  · rw [chL_get]
    have hi : i.1 * n < len := (chK_lt hn).1 (Nat.lt_of_lt_of_eq i.2 (chL_len fr cs len n))
    obtain ⟨b, off, rfl, q1, q2, q3⟩ := hA (by omega)
    simp only [VRt]
    refine ⟨_, _, rfl, ?_, rfl⟩
    rw [VR]
    refine ⟨_, _, rfl, Nat.le_refl _, fun _ => ⟨b, off + i.1 * n, rfl, q1, q2, ?_⟩⟩
    rw [VRm_iff] at q3 ⊢
    intro j a hj
    rw [List.getElem?_take] at hj
    split at hj
    · rw [List.getElem?_drop] at hj
      have := q3 _ _ hj
      rwa [← Nat.add_assoc] at this
    · cases hj
  · intro l J Jx W hW hJ hJx hY hj
    refine chunk_in l ⟨b1, o1, none⟩ ⟨b2, o2, none⟩ A len k n _ (chL_len fr cs len n) hn hsz hk (fun h => ?_) J Jx (Kc c) (fun B C hK => ⟨?_, ?_⟩) W hJ hJx hY ?_ ?_ hj
    · obtain ⟨b, off, e, _⟩ := hA h; exact ⟨b, off, e⟩
    · exact World.cell?_of_block (hK b1 hlt1 ho1.2.1 (fun h => absurd h ho1.2.2))
    · exact World.cell?_of_block (hK b2 hlt2 ho2.2.1 (fun h => absurd h ho2.2.2))
    · exact (World.cell?_of_block (hW.block b1 hlt1)).trans hc1
    · exact (World.cell?_of_block (hW.block b2 hlt2)).trans hc2
end Go.Proofs.YtdenddhdeloceaaDoor
/- slices.Backward of writes: the iterator, and what it yields. -/
namespace Go.Proofs.YtdenddhdeloceaaDoor
open Go.RowKit Go.Shelf
attribute [local go_sem] Oper.semAt_some
set_option maxRecDepth 100000
theorem bw_spec (fr : Bool) (l : List Wr) (nb : Nat) :
    ASound Tryd.prog 63 [fWrs fr l] nb (.ret (.fn 81 [.fp true [fWrs fr l] 0]) []) := by
  refine ok_63.sound (by simp) ⟨al_Wrs l, trivial⟩ ?_
  simp only [ac_63, TT, ↓reduceIte, Nat.reduceEqDiff, Nat.reduceAdd, Nat.reduceMul, reduceCtorEq, Nat.reduceLeDiff]
  refine Ends.weak (Weak.fnData 2 81 [.op 0 0] [.fp true [fWrs fr l] 0] (by simp [s_envOf]) rfl ?_) (Ends.data (.inr rfl) (by simp [ET]; rfl) ⟨⟨al_Wrs l, trivial⟩, trivial⟩)
  intro j x' hj
  match j, hj with
  | 0, hj => cases hj; exact ⟨_, rfl, .inr ⟨0, true, 37, [fWrs fr l], 0, rfl, by simp [WT], ⟨al_Wrs l, trivial⟩, rfl⟩⟩
  | j + 1, hj => simp at hj
set_option maxHeartbeats 4000000 in
theorem bw_in (l : Nat) (p1 : Addr) (b off : Nat) (A : Option Addr) (K cap : Nat) (hsz : K ≤ 9223372036854775807) (hcap : K ≤ cap) (hA : K ≠ 0 → A = some ⟨b, off, none⟩)
    (sec : Nat → Int) (sA : Nat → Option Addr) (sn sk : Nat → Nat)
    (J Jx : List (_root_.Fin K) → World → Prop) (Kp : World → World → Prop) (hKp : ∀ B C, Kp B C → C.cell? p1 = B.cell? p1 ∧ ∀ j, j < 2 * K → C.cell? ⟨b, off + j, none⟩ = B.cell? ⟨b, off + j, none⟩)
    (W : World) (hJ : AbidesFrom W.heap.size J) (hJx : AbidesFrom W.heap.size Jx)
    (hY : ∀ pre (x : _root_.Fin K) W1, J pre W1 → pre.length < K → YieldAt Fence.wide 1 Tryd.prog l #[.int .i64 ((K - 1 - x.1 : Nat) : Int), .agg #[.int .i64 (sec (K - 1 - x.1)), .slice (sA (K - 1 - x.1)) (sn (K - 1 - x.1)) (sk (K - 1 - x.1))]] W1 fun e W' => (e = .returned (.bool true) ∧ J (pre ++ [x]) W' ∧ Kp W1 W') ∨ (e = .returned (.bool false) ∧ Jx (pre ++ [x]) W'))
    (h1 : W.cell? p1 = some (.slice A K cap)) (h2 : ∀ j, j < K → W.cell? ⟨b, off + 2 * j, none⟩ = some (.int .i64 (sec j)) ∧ W.cell? ⟨b, off + 2 * j + 1, none⟩ = some (.slice (sA j) (sn j) (sk j))) (hj : J [] W) :
    CallsIn Fence.wide 2 Tryd.prog 81 #[.func (.yield l) #[] #[], .pointer (some p1)] W fun e W' => (∃ v, e = .returned v) ∧
      ((∃ xs, xs = List.finRange K ∧ J xs W') ∨ (∃ pre, (∃ k, k < K ∧ pre = (List.finRange K).take (k + 1)) ∧ Jx pre W')) := by
  have H1 := Lib.hid h1
  have H2 := Lib.hid h2
  have HY := Lib.hid hY
  have HJ := Lib.hid hJ
  have Hj := Lib.hid hj
  have HK := Lib.hid hKp
  have y1 := h1
  clear h1 h2 hY hJ hJx hj hKp
  refine callsIn_of_wp Tryd.func81 rfl trivial ?_ rfl
  simp only [Tryd.ntmps81, List.size_toArray, List.length_cons, List.length_nil, Nat.reduceAdd, Nat.reduceSub, Array.replicate_succ, Array.replicate_zero, List.push_toArray, List.append_toArray, List.nil_append, List.cons_append]
  gi_wp2
  clear y1
  gi_loopw [3] (fun i wr => ∃ j : Nat, j ≤ K ∧ i = .int .i64 ((K : Int) - 1 - j) ∧ Hid (J ((List.finRange K).take j) wr) ∧ Hid (wr.cell? p1 = some (.slice A K cap)) ∧ Hid (∀ j, j < K → wr.cell? ⟨b, off + 2 * j, none⟩ = some (.int .i64 (sec j)) ∧ wr.cell? ⟨b, off + 2 * j + 1, none⟩ = some (.slice (sA j) (sn j) (sk j)))) (fun i _ => (intOf i + 1).toNat)
  case atStart => exact ⟨0, Nat.zero_le _, by simp, Hj, H1, H2⟩
  case round =>
    obtain ⟨j, hjk, rfl, HJs, G1, G2⟩ := hrel
    have y1 := G1.out
    by_cases hlt : j < K
    · obtain ⟨q, hq⟩ : ∃ q : Nat, q = K - 1 - j := ⟨_, rfl⟩
      have HQ := Lib.hid hq
      obtain ⟨z0, z1⟩ := G2.out q (by omega)
      have hA' := hA (by omega)
      subst hA'
      rw [show (K : Int) - 1 - j = (q : Int) from by omega]
      obtain ⟨x, hxv, hxl⟩ : ∃ x : _root_.Fin K, x.1 = j ∧ (List.finRange K).take (j + 1) = (List.finRange K).take j ++ [x] :=
        ⟨⟨j, hlt⟩, rfl, by rw [List.take_succ_eq_append_getElem (by simpa using hlt)]; simp⟩
      have HX := Lib.hid hxl
      obtain ⟨fn, tmps, assign, body, hy, hR⟩ := HY.out _ x wr HJs.out (by simp; omega)
      rw [hxv, ← hq] at hy
      have HR := Lib.hid hR
      have HYY := Lib.hid hy
      have hqK : q < K := by omega
      have e1 : decide ((0 : Int) ≤ (q : Int)) = true := by simp
      have e2 : off + q * 2 = off + 2 * q := by omega
      clear hR hy hq hxl hxv hA
      gi_wp2_with fail
      rw [HYY.out, Oper.uponIn_round]
      clear y1 z0 z1
      refine ⟨fun h => (by cases h), HR.out.mono ?_⟩
      rintro e W3 (⟨rfl, hJ3, hk3⟩ | ⟨rfl, hJx3⟩)
      · have k1 := Lib.hid ((HK.out _ _ hk3).1.trans G1.out)
        have k2 := Lib.hid (show ∀ j, j < K → W3.cell? ⟨b, off + 2 * j, none⟩ = some (.int .i64 (sec j)) ∧ W3.cell? ⟨b, off + 2 * j + 1, none⟩ = some (.slice (sA j) (sn j) (sk j)) from fun i hi =>
          ⟨((HK.out _ _ hk3).2 (2 * i) (by omega)).trans (G2.out i hi).1, ((HK.out _ _ hk3).2 (2 * i + 1) (by omega)).trans (G2.out i hi).2⟩)
        have HJ3 := Lib.hid hJ3
        clear hJ3 hk3
        gi_wp2_with fail
        go_roundw
        case rel => exact ⟨j + 1, hlt, by have := HQ.out; congr 1; omega, by rw [HX.out]; exact HJ3.out, k1, k2⟩
        case measure => simp [intOf]
      · gi_wp2_with fail
        refine bodyPost_ret (results_none rfl _ _ _) rfl ?_
        exact ⟨⟨_, rfl⟩, .inr ⟨_, ⟨j, hlt, HX.out.symm⟩, hJx3⟩⟩
    · obtain rfl : j = K := by omega
      rw [show (j : Int) - 1 - j = -1 from by omega]
      have e1 : decide ((0 : Int) ≤ -1) = false := by decide
      gi_wp2_with fail
      go_end0
      exact ⟨⟨_, rfl⟩, .inl ⟨_, rfl, by have := HJs.out; rwa [List.take_of_length_le (by simp)] at this⟩⟩
/-- what is yielded -/
def bwL (fr : Bool) (l : List Wr) : List (List AV) := (List.range l.length).map fun k => [.v (.int .i64 ((l.length - 1 - k : Nat) : Int)), .agg [.v (.int .i64 ((l[l.length - 1 - k]?).getD ⟨0, []⟩).sec), fB fr ((l[l.length - 1 - k]?).getD ⟨0, []⟩).data]]
theorem bwL_len (fr : Bool) (l : List Wr) : (bwL fr l).length = l.length := by simp [bwL]
theorem bwL_get (fr : Bool) (l : List Wr) (i : _root_.Fin (bwL fr l).length) : (bwL fr l)[i] = [.v (.int .i64 ((l.length - 1 - i.1 : Nat) : Int)), .agg [.v (.int .i64 ((l[l.length - 1 - i.1]?).getD ⟨0, []⟩).sec), fB fr ((l[l.length - 1 - i.1]?).getD ⟨0, []⟩).data]] := by
  have : ∀ (k : Nat) (hk : k < (bwL fr l).length), (bwL fr l)[k] = [.v (.int .i64 ((l.length - 1 - k : Nat) : Int)), .agg [.v (.int .i64 ((l[l.length - 1 - k]?).getD ⟨0, []⟩).sec), fB fr ((l[l.length - 1 - k]?).getD ⟨0, []⟩).data]] := fun k hk => by simp [bwL]
  exact this i.1 i.2
theorem bw_iter (fr f1 : Bool) (l : List Wr) (hsz : l.length ≤ 4398046511104) :
    IterA Tryd.prog 81 [.fp f1 [fWrs fr l] 0] (bwL fr l) := by
  refine ⟨by rfl, fun c lb hr hv => ?_⟩
  simp only [VRt] at hv
  obtain ⟨u1, us, rfl, h1, rfl⟩ := hv
  rw [VR] at h1
  obtain ⟨b1, o1, rfl, hlt1, ho1, hm1⟩ := h1
  simp only [VRm, Nat.add_zero] at hm1
  obtain ⟨⟨v1, hc1, _, hv1⟩, _⟩ := hm1
  rw [fWrs, VR] at hv1
  obtain ⟨A, k, rfl, hk, hA⟩ := hv1
  -- where the writes lie
  obtain ⟨b, off, hAb, hb⟩ : ∃ b off, (l.length ≠ 0 → A = some ⟨b, off, none⟩) ∧ (l.length ≠ 0 → b < c.w.heap.size ∧ c.ok fr b ∧ VRm c b off (eWrs fr l)) := by
    by_cases h0 : l.length = 0
    · exact ⟨0, 0, fun h => absurd h0 h, fun h => absurd h0 h⟩
    · obtain ⟨b, off, e, q⟩ := hA h0
      exact ⟨b, off, fun _ => e, fun _ => q⟩
  have cell : ∀ j, j < l.length → ∃ sA sn sk, c.w.cell? ⟨b, off + 2 * j, none⟩ = some (.int .i64 ((l[j]?).getD ⟨0, []⟩).sec) ∧ c.w.cell? ⟨b, off + 2 * j + 1, none⟩ = some (.slice sA sn sk) ∧ VR c (fB fr ((l[j]?).getD ⟨0, []⟩).data) (.slice sA sn sk) := by
    intro j hj
    obtain ⟨_, _, hm⟩ := hb (by omega)
    obtain ⟨w, hw⟩ : ∃ w, l[j]? = some w := ⟨_, List.getElem?_eq_getElem hj⟩
    obtain ⟨g1, g2⟩ := get_Wrs (fr := fr) hw
    rw [VRm_iff] at hm
    obtain ⟨x1, a1, _, a2⟩ := hm _ _ g1
    obtain ⟨x2, b1, _, b2⟩ := hm _ _ g2
    have e1 : x1 = .int .i64 w.sec := a2
    subst e1
    have b2' := b2
    rw [VR] at b2
    obtain ⟨sA, sk, rfl, _⟩ := b2
    refine ⟨sA, w.data.length, sk, ?_, ?_, ?_⟩
    · rw [hw]; rw [Nat.mul_comm]; exact a1
    · rw [show off + 2 * j + 1 = off + (j * 2 + 1) from by omega]; exact b1
    · rw [hw]; exact b2'
  obtain ⟨sA, hsA⟩ : ∃ sA : Nat → Option Addr, ∀ j, j < l.length → ∃ sn sk, c.w.cell? ⟨b, off + 2 * j, none⟩ = some (.int .i64 ((l[j]?).getD ⟨0, []⟩).sec) ∧ c.w.cell? ⟨b, off + 2 * j + 1, none⟩ = some (.slice (sA j) sn sk) ∧ VR c (fB fr ((l[j]?).getD ⟨0, []⟩).data) (.slice (sA j) sn sk) := by
    classical
    exact ⟨fun j => if h : j < l.length then (cell j h).choose else none, fun j h => by simp only [dif_pos h]; exact (cell j h).choose_spec⟩
  obtain ⟨sn, hsn⟩ : ∃ sn : Nat → Nat, ∀ j, j < l.length → ∃ sk, c.w.cell? ⟨b, off + 2 * j, none⟩ = some (.int .i64 ((l[j]?).getD ⟨0, []⟩).sec) ∧ c.w.cell? ⟨b, off + 2 * j + 1, none⟩ = some (.slice (sA j) (sn j) sk) ∧ VR c (fB fr ((l[j]?).getD ⟨0, []⟩).data) (.slice (sA j) (sn j) sk) := by
    classical
    exact ⟨fun j => if h : j < l.length then (hsA j h).choose else 0, fun j h => by simp only [dif_pos h]; exact (hsA j h).choose_spec⟩
  obtain ⟨sk, hsk⟩ : ∃ sk : Nat → Nat, ∀ j, j < l.length → c.w.cell? ⟨b, off + 2 * j, none⟩ = some (.int .i64 ((l[j]?).getD ⟨0, []⟩).sec) ∧ c.w.cell? ⟨b, off + 2 * j + 1, none⟩ = some (.slice (sA j) (sn j) (sk j)) ∧ VR c (fB fr ((l[j]?).getD ⟨0, []⟩).data) (.slice (sA j) (sn j) (sk j)) := by
    classical
    exact ⟨fun j => if h : j < l.length then (hsn j h).choose else 0, fun j h => by simp only [dif_pos h]; exact (hsn j h).choose_spec⟩
  have hlen : ∀ i : _root_.Fin (bwL fr l).length, i.1 < l.length := fun i => Nat.lt_of_lt_of_eq i.2 (bwL_len fr l)
  refine ⟨fun i => [.int .i64 (((bwL fr l).length - 1 - i.1 : Nat) : Int), .agg #[.int .i64 ((l[(bwL fr l).length - 1 - i.1]?).getD ⟨0, []⟩).sec, .slice (sA ((bwL fr l).length - 1 - i.1)) (sn ((bwL fr l).length - 1 - i.1)) (sk ((bwL fr l).length - 1 - i.1))]], fun i => ?_, ?_⟩
  · rw [bwL_get]
    have hi := hlen i
    have ee : (bwL fr l).length - 1 - i.1 = l.length - 1 - i.1 := by have := bwL_len fr l; omega
    simp only [ee]
    obtain ⟨q1, q2, q3⟩ := hsk (l.length - 1 - i.1) (by omega)
    simp only [VRt]
    refine ⟨_, _, rfl, rfl, _, _, rfl, ?_, rfl⟩
    rw [VR]
    refine ⟨[_, _], rfl, ?_⟩
    rw [VRl]
    refine ⟨_, _, rfl, rfl, rfl, ?_⟩
    rw [VRl]
    exact ⟨_, _, rfl, rfl, q3, rfl⟩
  · intro l' J Jx W hW hJ hJx hY hj
    refine bw_in l' ⟨b1, o1, none⟩ b off A (bwL fr l).length k (by rw [bwL_len]; omega) (by rw [bwL_len]; exact hk) (by rw [bwL_len]; exact hAb) (fun j => ((l[j]?).getD ⟨0, []⟩).sec) sA sn sk J Jx (Kc c) (fun B C hK => ⟨?_, fun j hj => ?_⟩) W hJ hJx hY ?_ (fun j hj => ?_) hj
    · exact World.cell?_of_block (hK b1 hlt1 ho1.2.1 (fun h => absurd h ho1.2.2))
    · rw [bwL_len] at hj
      obtain ⟨q1, q2, _⟩ := hb (by omega)
      exact World.cell?_of_block (hK b q1 q2.2.1 (fun h => absurd h q2.2.2))
    · rw [bwL_len]; exact (World.cell?_of_block (hW.block b1 hlt1)).trans hc1
    · rw [bwL_len] at hj
      obtain ⟨q1, q2, _⟩ := hb (by omega)
      obtain ⟨g1, g2, _⟩ := hsk j hj
      exact ⟨(World.cell?_of_block (hW.block b q1)).trans g1, (World.cell?_of_block (hW.block b q1)).trans g2⟩
end Go.Proofs.YtdenddhdeloceaaDoor
/- Functions of the program, compiled. -/
namespace Go.Proofs.YtdenddhdeloceaaDoor
set_option maxRecDepth 100000
def ac_40 : AC :=
(.seq (.reg false [⟨some 3, .box 39 (.tmp 0), none, [0], []⟩,
    ⟨some 4, .box 3 (.tmp 1), none, [1], []⟩,
    ⟨some 6, .new 39 [(.slice none 0 0), (.slice none 0 0)], none, [], []⟩] [2, 3, 4, 6])
(.seq (.reg false [⟨some 10, .load true 2 (.tmp 3), none, [3], []⟩,
    ⟨some 11, .call 61 [(.tmp 10)], none, [10], []⟩,
    ⟨some 7, .new 39 [(.slice none 0 0), (.slice none 0 0)], none, [], []⟩,
    ⟨none, .store 2 (.tmp 7) (.tmp 11), none, [7, 11], []⟩] [2, 4, 6, 7])
(.seq (.seq (.reg false [⟨some 12, .mv (.tmp 2), none, [2], []⟩,
    ⟨some 13, .call 62 [(.tmp 12), (.const (.int .i64 (64)))], none, [12], []⟩] [4, 6, 7, 13])
(.block 0 (.rfunc (.tmp 13) [14] [(8, (.tmp 14))]
(.block 1 (.seq (.reg false [⟨some 15, .mksl 5 1 1 [(.int .u8 (0))] (.const (.int .i64 (64))) (.const (.int .i64 (64))), none, [], []⟩,
    ⟨some 9, .mv (.tmp 15), none, [15], []⟩] [4, 7, 8, 9])
(.seq (.reg false [⟨some 16, .mv (.tmp 9), none, [9], []⟩,
    ⟨some 17, .mv (.tmp 8), none, [8], []⟩,
    ⟨some 18, .copy (.tmp 16) (.tmp 17), none, [16, 17], []⟩] [4, 7, 9])
(.seq (.reg false [⟨some 19, .foff 1 (.tmp 7), none, [7], []⟩,
    ⟨some 20, .load false 1 (.tmp 19), none, [19], []⟩,
    ⟨some 21, .load false 1 (.tmp 4), none, [4], []⟩,
    ⟨some 22, .mv (.tmp 9), none, [9], []⟩,
    ⟨some 23, .build [(.int .i64 (0)), (.slice none 0 0)] [(0, 1, (.tmp 21)), (1, 1, (.tmp 22))], none, [21, 22], []⟩,
    ⟨some 24, .bslice 105 2 1 [(.int .i64 (0)), (.slice none 0 0)] [(0, 2, (.tmp 23))], none, [23], []⟩,
    ⟨some 25, .append 105 2 32 (.tmp 20) (.tmp 24), none, [20, 24], []⟩,
    ⟨some 26, .foff 1 (.tmp 7), none, [7], []⟩,
    ⟨none, .store 1 (.tmp 26) (.tmp 25), none, [26, 25], []⟩] [4])
(.reg false [⟨some 27, .load false 1 (.tmp 4), none, [4], []⟩,
    ⟨some 28, .bin .add (.tmp 27) (.const (.int .i64 (1))), none, [27], []⟩,
    ⟨none, .store 1 (.tmp 4) (.tmp 28), none, [4, 28], []⟩] []))))))))
(.seq (.reg false [⟨some 29, .load true 2 (.tmp 7), none, [7], []⟩,
    ⟨none, .store 2 (.tmp 6) (.tmp 29), none, [6, 29], []⟩] [6])
.ret))))
theorem ok_40 : FnOk Tryd.prog 40 30 ac_40 [.cell 6 true 2] := ⟨Tryd.f40, Tryd.func40, by kernel_rfl, by kernel_rfl, by kernel_rfl, by kernel_rfl, by kernel_rfl⟩
def ac_43 : AC :=
(.seq (.reg false [⟨some 2, .box 39 (.tmp 0), none, [0], []⟩,
    ⟨some 3, .box 3 (.tmp 1), none, [1], []⟩,
    ⟨some 4, .new 22 [(.slice none 0 0)], none, [], []⟩] [2, 3, 4])
(.seq (.seq (.reg false [⟨some 7, .foff 1 (.tmp 2), none, [2], []⟩,
    ⟨some 8, .load false 1 (.tmp 7), none, [7], []⟩,
    ⟨some 9, .call 63 [(.tmp 8)], none, [8], []⟩] [2, 3, 4, 9])
(.block 0 (.rfuncC (.tmp 9) [10, 11] (.reg false [⟨some 6, .new 105 [(.int .i64 (0)), (.slice none 0 0)], none, [], []⟩,
    ⟨none, .store 2 (.tmp 6) (.tmp 11), none, [6, 11], []⟩] [3, 4, 6])
(.block 1 (.seq (.reg false [⟨some 12, .foff 0 (.tmp 6), none, [6], []⟩,
    ⟨some 13, .load false 1 (.tmp 12), none, [12], []⟩,
    ⟨some 14, .load false 1 (.tmp 3), none, [3], []⟩,
    ⟨some 15, .bin .eql (.tmp 13) (.tmp 14), none, [13, 14], []⟩] [4, 6, 15])
(.cond (.tmp 15)
(.seq (.reg false [⟨some 16, .foff 1 (.tmp 6), none, [6], []⟩,
    ⟨some 17, .load false 1 (.tmp 16), none, [16], []⟩,
    ⟨none, .store 1 (.tmp 4) (.tmp 17), none, [4, 17], []⟩] [])
.ret)
.skip))))))
(.seq (.reg false [⟨some 18, .foff 0 (.tmp 2), none, [2], []⟩,
    ⟨some 19, .load false 1 (.tmp 18), none, [18], []⟩,
    ⟨some 20, .load false 1 (.tmp 3), none, [3], []⟩,
    ⟨some 21, .idx 1 (.tmp 19) (.tmp 20), none, [19, 20], []⟩,
    ⟨some 22, .load false 1 (.tmp 21), none, [21], []⟩,
    ⟨none, .store 1 (.tmp 4) (.tmp 22), none, [4, 22], []⟩] [4])
.ret)))
theorem ok_43 : FnOk Tryd.prog 43 23 ac_43 [.cell 4 false 1] := ⟨Tryd.f43, Tryd.func43, by kernel_rfl, by kernel_rfl, by kernel_rfl, by kernel_rfl, by kernel_rfl⟩
end Go.Proofs.YtdenddhdeloceaaDoor
/- Contract: disk's last. -/
namespace Go.Proofs.YtdenddhdeloceaaDoor
open Go.RowKit
set_option maxRecDepth 100000
theorem lastB_none {base : List Int} {k : Int} {l : List Wr} (h : ∀ w ∈ l, w.sec ≠ k) : lastB base k l = base := by
  induction l with
  | nil => rfl
  | cons w l ih =>
    show lastB (if w.sec = k then w.data else base) k l = base
    rw [if_neg (h w (by simp))]
    exact ih fun x hx => h x (by simp [hx])
theorem lastB_found {base : List Int} {k : Int} {l : List Wr} {j : Nat} {w : Wr} (h : l[j]? = some w) (hw : w.sec = k) (ha : ∀ (i : Nat) x, j < i → l[i]? = some x → x.sec ≠ k) : lastB base k l = w.data := by
  have hs : l = l.take (j + 1) ++ l.drop (j + 1) := (List.take_append_drop _ _).symm
  have h1 := lastB_snoc (base := base) (k := k) h
  rw [if_pos hw] at h1
  have h2 : ∀ x ∈ l.drop (j + 1), x.sec ≠ k := fun x hx => by
    obtain ⟨i, hi⟩ := List.mem_iff_getElem?.1 hx
    rw [List.getElem?_drop] at hi
    exact ha _ x (by omega) hi
  have h3 : ∀ b : List Int, lastB b k (l.drop (j + 1)) = b := fun b => lastB_none h2
  rw [hs]
  show (l.take (j + 1) ++ l.drop (j + 1)).foldl _ base = w.data
  rw [List.foldl_append]
  exact (h3 _).trans h1
abbrev hLst (fr : Bool) (d : Dk) (k : Nat) : List (Nat × AObj) := [(0, .row true 39 [fL fr d.sectors, fWrs fr d.cache]), (1, .row true 3 [.v (.int .i64 k)]), (2, .row true 22 [.v (.slice none 0 0)])]
abbrev L_lst (fr : Bool) (d : Dk) (k : Nat) : ASt := ⟨envOf [(2, .op 0 0), (3, .op 1 0), (4, .op 2 0), (9, .fn 81 [.fp true [fWrs fr d.cache] 0])],
  heapOf (hLst fr d k), 3⟩
abbrev L_lsa (fr : Bool) (d : Dk) (k : Nat) (w : Wr) : ASt := ⟨envOf [(3, .op 1 0), (4, .op 2 0), (6, .op 3 0)],
  heapOf [(0, .row true 39 [fL fr d.sectors, fWrs fr d.cache]), (1, .row true 3 [.v (.int .i64 k)]), (2, .row true 22 [.v (.slice none 0 0)]), (3, .row true 105 [.v (.int .i64 w.sec), fB fr w.data])], 4⟩
theorem drop_lst (fr : Bool) (d : Dk) (k : Nat) (w : Wr) : Weak 23 3 (L_lsa fr d k w) ⟨fun _ => .any, heapOf (hLst fr d k), 3⟩ := by
  show Weak 23 3 _ ⟨envOf [], heapOf (hLst fr d k), 3⟩
  refine Weak.calc [(0, 0), (1, 1), (2, 2)] (by decide) ?_ ?_ <;> simp [WT, fWrs, fL, al_L, al_Wrs]
def wAt (d : Dk) (i : Nat) : Wr := (d.cache[d.cache.length - 1 - i]?).getD ⟨0, []⟩
set_option maxHeartbeats 2000000 in
theorem last_spec (fr : Bool) (d : Dk) (k : Nat) (base : List Int) (nb : Nat) (hk : d.sectors[k]? = some base) (h3 : d.cache.length ≤ 4398046511104) :
    ASound Tryd.prog 43 [aDk fr d, .v (.int .i64 k)] nb (.ret (fB fr (lastB base k d.cache)) []) := by
  refine ok_43.sound (by simp) ⟨al_aDk d, trivial, trivial⟩ ?_
  have hlt := (List.getElem?_eq_some_iff.1 hk).1
  have c1 : ((0 : Int) ≤ (k : Int) ∧ (k : Int) < (d.sectors.length : Int)) = True := eq_true ⟨by omega, by omega⟩
  have hb := bw_spec fr d.cache
  simp only [fWrs] at hb
  simp only [ac_43, TT, ↓reduceIte, Nat.reduceEqDiff, Nat.reduceAdd, Nat.reduceMul, reduceCtorEq, Nat.reduceLeDiff]
  refine ⟨_, hb _, ?_⟩
  simp only [TT, ↓reduceIte, Nat.reduceEqDiff, Nat.reduceAdd, Nat.reduceMul, reduceCtorEq, Nat.reduceLeDiff]
  refine AWc.weak (s' := L_lst fr d k) (Weak.calc [(0, 0), (100000, 1), (200000, 2)] (by decide) ?_ ?_) ?_
  · simp [WT, fWrs]
  · simp [WT]
  refine AWc.rangeC 3 (by omega) (Nat.le_refl 3) (by simp [WT, evA]) (bw_iter fr true d.cache h3) rfl rfl (fun l hl => ?_) (AlN.env (by simp [AlL, Al, fWrs, al_Wrs])) (fun i => L_lsa fr d k (wAt d i.1)) (fun i => (by decide : 3 ≤ 4))
    (fun e i σ nx => e = .ret ∧ (wAt d i.1).sec = k ∧ σ 2 = some (.row true 22 [fB fr (wAt d i.1).data])) (fun i => (wAt d i.1).sec ≠ k) (fun i => ?_) (fun i => ?_) (fun hall => ?_) (fun j e σ nx hpre hx => ?_)
  · obtain ⟨i, hi, rfl⟩ := List.mem_map.1 hl
    exact ⟨AlNL.of (by simp [AlL, Al, fB, al_B]), rfl⟩
  · rw [bwL_get]
    simp only [L_lst, bindP, TT, ↓reduceIte, Nat.reduceEqDiff, Nat.reduceAdd, Nat.reduceMul, reduceCtorEq, Nat.reduceLeDiff]
    refine ⟨?_, ?_⟩
    · refine Weak.calc [(0, 0), (1, 1), (2, 2), (3, 3)] (by decide) ?_ ?_ <;> simp [WT, wAt]
    · exact drop_lst fr d k (wAt d i.1)
  · by_cases hs : (wAt d i.1).sec = (k : Int)
    · simp only [L_lsa, hs, TT, ↓reduceIte, Nat.reduceEqDiff, Nat.reduceAdd, Nat.reduceMul, reduceCtorEq, Nat.reduceLeDiff]
      exact ⟨rfl, by simp [WT]⟩
    · simp only [L_lsa, hs, TT, ↓reduceIte, Nat.reduceEqDiff, Nat.reduceAdd, Nat.reduceMul, reduceCtorEq, Nat.reduceLeDiff]
      refine ⟨hs, ?_⟩
      show Weak 23 3 _ ⟨envOf [], heapOf (hLst fr d k), 3⟩
      refine Weak.calc [(0, 0), (1, 1), (2, 2)] (by decide) ?_ ?_ <;> simp [WT]
  · have hn : lastB base k d.cache = base := lastB_none fun w hw => by
      obtain ⟨i, hi⟩ := List.mem_iff_getElem?.1 hw
      have hil := (List.getElem?_eq_some_iff.1 hi).1
      have := hall ⟨d.cache.length - 1 - i, by rw [bwL_len]; omega⟩
      unfold wAt at this
      rw [show d.cache.length - 1 - (d.cache.length - 1 - i) = i from by omega, hi] at this
      exact this
    rw [hn]
    simp only [L_lst, c1, Int.toNat_natCast, get_L hk, TT, ↓reduceIte, Nat.reduceEqDiff, Nat.reduceAdd, Nat.reduceMul, reduceCtorEq, Nat.reduceLeDiff]
    exact Ends.data (.inr rfl) (by simp [ET]) (al_fB base)
  · obtain ⟨rfl, h1, h2⟩ := hx
    have hjl : j.1 < d.cache.length := Nat.lt_of_lt_of_eq j.2 (bwL_len fr d.cache)
    have hw : d.cache[d.cache.length - 1 - j.1]? = some (wAt d j.1) := by
      unfold wAt; rw [List.getElem?_eq_getElem (by omega)]; rfl
    have hf : lastB base k d.cache = (wAt d j.1).data := lastB_found hw h1 fun i x hi hx => by
      have hil := (List.getElem?_eq_some_iff.1 hx).1
      have := hpre ⟨d.cache.length - 1 - i, by rw [bwL_len]; omega⟩ (by show d.cache.length - 1 - i < j.1; omega)
      unfold wAt at this
      rw [show d.cache.length - 1 - (d.cache.length - 1 - i) = i from by omega, hx] at this
      exact this
    rw [hf]
    simp only [L_lst, TT, ↓reduceIte, Nat.reduceEqDiff, Nat.reduceAdd, Nat.reduceMul, reduceCtorEq, Nat.reduceLeDiff]
    exact Ends.data (.inr rfl) (by simp [ET, h2]; rfl) (al_fB _)
end Go.Proofs.YtdenddhdeloceaaDoor
/- Contract: disk.GetAll of sectors that are there. -/
namespace Go.Proofs.YtdenddhdeloceaaDoor
open Go.RowKit
set_option maxRecDepth 100000
abbrev L_gall (fr : Bool) (d : Dk) (s n i : Nat) : ASt := ⟨envOf [(1, .v (.int .i64 s)), (3, .op 0 0), (9, .os 1 0 (getD d s i).length 1), (21, .v (.int .i64 n)), (22, .v (.int .i64 i))],
  heapOf [(0, .row true 39 [fL fr d.sectors, fWrs fr d.cache]), (1, .row true 5 (eB (getD d s i)))], 2⟩
set_option maxHeartbeats 1000000 in
theorem getAll_ok (fr : Bool) (d : Dk) (s n : Nat) (nb : Nat) (h : okD d) (hs : s + n ≤ d.sectors.length) :
    ASound Tryd.prog 24 [aDk fr d, .v (.int .i64 s), .v (.int .i64 n)] nb (.ret (.tup [fB true (getD d s n), .v (.int .i64 0)]) []) := by
  have hf := h.few
  have hc := dcheck_spec fr d
  rw [dkE_ok h] at hc
  have hr := room_spec fr d s n
  have hrt : decide ((0 : Int) ≤ s ∧ (0 : Int) ≤ n ∧ (s : Int) ≤ d.sectors.length ∧ (n : Int) ≤ d.sectors.length - s) = true := by
    rw [decide_eq_true_eq]; omega
  rw [hrt] at hr
  simp only [aDk, fL, fWrs] at hc hr
  refine ok_24.sound (by simp) ⟨al_aDk d, trivial, trivial, trivial⟩ ?_
  simp only [ac_24, TT, ↓reduceIte, Nat.reduceEqDiff, Nat.reduceAdd, Nat.reduceMul, reduceCtorEq, Nat.reduceLeDiff]
  refine ⟨_, hc _ (by omega), ?_⟩
  simp only [not_true_eq_false, TT, ↓reduceIte, Nat.reduceEqDiff, Nat.reduceAdd, Nat.reduceMul, reduceCtorEq, Nat.reduceLeDiff]
  refine ⟨_, hr _ (by omega) (by omega), ?_⟩
  simp only [TT, ↓reduceIte, Nat.reduceEqDiff, Nat.reduceAdd, Nat.reduceMul, reduceCtorEq, Nat.reduceLeDiff]
  refine AWc.family (L_gall fr d s n) (fun i => i ≤ n) (fun i => n - i) 0 (Nat.zero_le _) ?_ ?_
  · refine Weak.trans (Weak.virtC 5 1 (l := [(1, .v (.int .i64 s)), (3, .op 0 0), (9, .os 1600000 0 0 1), (21, .v (.int .i64 n)), (22, .v (.int .i64 0))])
      (h := [(0, .row true 39 [fL fr d.sectors, fWrs fr d.cache])]) ?_ ?_) (Weak.calc [(0, 0), (1600000, 1)] (by decide) ?_ ?_)
    all_goals simp [WT, show getD d s 0 = [] from rfl, eB_nil]
  · intro i hi
    by_cases hlt : i < n
    · have e1 : ((i : Int) < (n : Int)) := by omega
      have w2 : IntKind.i64.wrap ((s : Int) + (i : Int)) = ((s + i : Nat) : Int) := by rw [wrap64 (by omega)]; omega
      have hk : s + i < d.sectors.length := by omega
      have hl := last_spec fr d (s + i) (d.sectors[s + i])
      have hsa : lastB (d.sectors[s + i]) ((s + i : Nat) : Int) d.cache = secAt d (s + i) := by unfold secAt; rw [List.getElem?_eq_getElem hk]; rfl
      rw [hsa] at hl
      simp only [aDk, fB, fL, fWrs] at hl
      have hlen := getD_len h s i (by omega)
      have hsl := secAt_len h hk
      have hcs : eB (getD d s i) ++ eB (secAt d (s + i)) = eB (getD d s (i + 1)) := by rw [getD_s, app_B]
      have hn : (getD d s i).length + (secAt d (s + i)).length = (getD d s (i + 1)).length := by rw [getD_s, List.length_append]
      simp only [L_gall, e1, w2, TT, ↓reduceIte, Nat.reduceEqDiff, Nat.reduceAdd, Nat.reduceMul, reduceCtorEq, Nat.reduceLeDiff]
      refine ⟨_, hl _ (List.getElem?_eq_getElem hk) (by omega), ?_⟩
      simp only [len_B, hcs, hn, TT, ↓reduceIte, Nat.reduceEqDiff, Nat.reduceAdd, Nat.reduceMul, reduceCtorEq, Nat.reduceLeDiff]
      rw [if_pos (by omega)]
      refine famC_next (i + 1) (by omega) (by omega) ?_
      refine Weak.calc [(0, 0), (900002, 1)] (by decide) ?_ ?_ <;> simp [WT, wrap64 (x := (i : Int) + 1) (by omega)]
    · obtain rfl : i = n := by omega
      have e1 : ¬ ((i : Int) < (i : Int)) := by omega
      simp only [L_gall, e1, TT, ↓reduceIte, Nat.reduceEqDiff, Nat.reduceAdd, Nat.reduceMul, reduceCtorEq, Nat.reduceLeDiff]
      refine Ends.weak (Weak.freezeC 1 rfl (l := [(6, fB true (getD d s i)), (7, .v (.int .i64 0))]) (h := []) ?_ ?_) (Ends.data (.inr rfl) (by simp [ET, fB]) ⟨al_B _, trivial, trivial⟩)
      · simp [WT]
      · simp [WT]
end Go.Proofs.YtdenddhdeloceaaDoor
/- Contract: disk's put. -/
namespace Go.Proofs.YtdenddhdeloceaaDoor
open Go.RowKit
set_option maxRecDepth 100000
/-- the i-th part of 64 octets -/
def chk (data : List Int) (i : Nat) : List Int := (data.drop (i * 64)).take (min 64 (data.length - i * 64))
def putW (s : Int) (data : List Int) (l : List Nat) : List Wr := l.zipIdx.map fun q => ⟨s + q.2, pad 64 (chk data q.1)⟩
theorem putW_snoc (s : Int) (data : List Int) (l : List Nat) (i : Nat) : putW s data (l ++ [i]) = putW s data l ++ [⟨s + l.length, pad 64 (chk data i)⟩] := by
  unfold putW
  rw [List.zipIdx_append, List.map_append]
  simp
theorem putW_len (s : Int) (data : List Int) (l : List Nat) : (putW s data l).length = l.length := by simp [putW]
theorem chk_le (data : List Int) (i : Nat) : (chk data i).length ≤ 64 := by simp [chk]; omega
theorem chk_len (data : List Int) (i : Nat) : (chk data i).length = min 64 (data.length - i * 64) := by simp [chk]
/-- the disk with octets put on it, a sector after another -/
def putG (d : Dk) (s : Int) (data : List Int) : Dk := ⟨d.sectors, d.cache ++ putW s data (List.range (chK data.length 64))⟩
abbrev hPt (d : Dk) (s : Int) (data : List Int) (pre : List Nat) : List (Nat × AObj) := [(0, .row true 3 [.v (.int .i64 (s + pre.length))]), (1, zP),
  (2, .row true 39 [fL true d.sectors, .os 3 0 (d.cache ++ putW s data pre).length 2]), (3, .row true 105 (eWrs true (d.cache ++ putW s data pre)))]
abbrev L_put (fk : Bool) (d : Dk) (s : Int) (data : List Int) : ASt := ⟨envOf [(4, .op 0 0), (6, .op 1 0), (7, .op 2 0), (13, .fn 80 [.fp true [fB fk data] 0, .fp true [.v (.int .i64 64)] 0])], heapOf (hPt d s data []), 4⟩
theorem chk_cells (fk : Bool) (data : List Int) (i : Nat) : AV.fs fk (((eB data).drop (i * 64)).take (min 64 (data.length - i * 64))) (min 64 (data.length - i * 64)) = fB fk (chk data i) := by
  rw [drop_B, take_B, fB, chk_len]; rfl
set_option maxHeartbeats 4000000 in
theorem put_spec (fr fk : Bool) (d : Dk) (s : Int) (data : List Int) (nb : Nat) (h : okD d) (hs : -4096 ≤ s ∧ s ≤ 4096) (hd : data.length ≤ 140737488355328) :
    ASound Tryd.prog 40 [aDk fr d, .v (.int .i64 s), fB fk data] nb (.ret (aDk true (putG d s data)) []) := by
  have hf := h.few
  have hK : chK data.length 64 ≤ 2199023255552 := by unfold chK; omega
  refine ok_40.sound (by simp) ⟨al_aDk d, trivial, al_fB data, trivial⟩ ?_
  have hc := clone_put fr d
  have hk := chunk_spec fk (eB data) data.length 64 (by decide) (al_B data)
  simp only [aDk, fL, fWrs] at hc
  simp only [ac_40, TT, ↓reduceIte, Nat.reduceEqDiff, Nat.reduceAdd, Nat.reduceMul, reduceCtorEq, Nat.reduceLeDiff]
  refine ⟨_, hc _ h, ?_⟩
  simp only [TT, ↓reduceIte, Nat.reduceEqDiff, Nat.reduceAdd, Nat.reduceMul, reduceCtorEq, Nat.reduceLeDiff]
  refine ⟨_, hk _, ?_⟩
  simp only [TT, ↓reduceIte, Nat.reduceEqDiff, Nat.reduceAdd, Nat.reduceMul, reduceCtorEq, Nat.reduceLeDiff]
  refine AWc.weak (s' := L_put fk d s data) (Weak.calc [(100000, 0), (200000, 1), (500000, 2), (400000, 3)] (by decide) ?_ ?_) ?_
  · simp [WT]
  · simp [WT, putW, fL, ren_L, al_L, al_Wrs, ren_Wrs]
  refine AWc.range 3 (by omega) (by simp [WT, evA]) (chunk_iter fk true true (eB data) data.length 64 (by decide) (by omega) (len_B data)) rfl (fun l hl => ?_) (AlN.env (by simp [AlL, Al, fB, al_B]))
    (fun pre => (heapOf (hPt d s data (pre.map (·.1))), 4)) rfl (fun pre => (by decide : 3 ≤ 4)) (fun _ _ _ _ => False) (fun pre i hpl => ?_) ?_ (fun j e σ nx _ hx => hx.elim)
  · obtain ⟨i, hi, rfl⟩ := List.mem_map.1 hl
    exact ⟨AlNL.of (by simp [AlL, Al, ← List.map_drop, drop_B, take_B, al_B]), rfl⟩
  · rw [chL_get, chk_cells]
    have hil : i.1 < chK data.length 64 := Nat.lt_of_lt_of_eq i.2 (chL_len _ _ _ _)
    have hpl' : (pre.map (·.1)).length < chK data.length 64 := by rw [List.length_map]; exact Nat.lt_of_lt_of_eq hpl (chL_len _ _ _ _)
    obtain ⟨P, hP⟩ : ∃ P, P = pre.map (·.1) := ⟨_, rfl⟩
    obtain ⟨j, hj⟩ : ∃ j, j = i.1 := ⟨_, rfl⟩
    have hPj : (pre ++ [i]).map (·.1) = P ++ [j] := by rw [List.map_append, hP, hj]; rfl
    rw [← hP, ← hj]
    rw [← hP] at hpl'
    simp only [L_put, bindP, mvE, rep_B, len_B, TT, ↓reduceIte, Nat.reduceEqDiff, Nat.reduceAdd, Nat.reduceMul, reduceCtorEq, Nat.reduceLeDiff]
    have t6 : Int.toNat 64 = 64 := rfl
    have hcl := chk_le data j
    have hm : (chk data j).length.min 64 = (chk data j).length := Nat.min_eq_left hcl
    have htk : List.take (chk data j).length (eB (chk data j)) = eB (chk data j) := List.take_of_length_le (by rw [len_B]; exact Nat.le_refl _)
    have hpl2 : (pad 64 (chk data j)).length = 64 := pad_len hcl
    have hwl : (d.cache ++ putW s data P).length = d.cache.length + P.length := by rw [List.length_append, putW_len]
    have hsn : setN (eB (List.replicate 64 0)) 0 (eB (chk data j)) = eB (pad 64 (chk data j)) := by
      rw [setN_B (by rw [List.length_replicate]; omega), pad_rep]
    have hcs : eWrs true (d.cache ++ putW s data P) ++ [.v (.int .i64 (s + P.length)), .fs true (eB (pad 64 (chk data j))) 64] = eWrs true (d.cache ++ putW s data (P ++ [j])) := by
      rw [putW_snoc, ← List.append_assoc, app_Wrs]
      congr 1
      simp [eWrs, eWr, fB, hpl2]
    simp only [t6, hm, htk, hsn]
    rw [if_pos (by decide), if_pos (by simp), if_pos ⟨len_Wrs _, by rw [hwl]; omega⟩]
    have hw := wrap64 (x := s + (P.length : Int) + 1) (by omega)
    show Weak 30 3 _ ⟨envOf [], heapOf (hPt d s data ((pre ++ [i]).map (fun x => x.1))), 4⟩
    rw [hPj, hw]
    refine Weak.trans (Weak.freezeC 4 rfl (l := []) (h := [(0, .row true 3 [.v (.int .i64 (s + P.length + 1))]), (1, zP), (2, .row true 39 [fL true d.sectors, .os 1100004 0 ((d.cache ++ putW s data P).length + 1) 2]),
      (1100004, .row true 105 (eWrs true (d.cache ++ putW s data P) ++ [.v (.int .i64 (s + P.length)), .fs true (eB (pad 64 (chk data j))) 64]))]) ?_ ?_) ?_
    · simp [WT]
    · have htz : List.take 64 (eB (pad 64 (chk data j))) = eB (pad 64 (chk data j)) := List.take_of_length_le (by rw [len_B, hpl2]; exact Nat.le_refl _)
      have hle : (eWrs true (d.cache ++ putW s data P)).length = (d.cache ++ putW s data P).length * 2 := len_Wrs _
      simp [WT, htz, fL]
      refine .inr ⟨(d.cache ++ putW s data P).length * 2 + 1, 64, 1, ?_, ?_⟩
      · rw [List.getElem?_append_right (by omega), hle, show (d.cache ++ putW s data P).length * 2 + 1 - (d.cache ++ putW s data P).length * 2 = 1 from by omega]; rfl
      · rw [List.set_append, if_neg (by omega), hle, show (d.cache ++ putW s data P).length * 2 + 1 - (d.cache ++ putW s data P).length * 2 = 1 from by omega]; simp [htz]
    · rw [hcs]
      refine Weak.calc [(0, 0), (1, 1), (2, 2), (1100004, 3)] (by decide) ?_ ?_ <;> simp [WT, fL]
      rw [putW_len, putW_len]
      refine ⟨by omega, by simp; omega⟩
  · have hz : (List.finRange (chL fk (eB data) data.length 64).length).map (fun x => x.1) = List.range (chK data.length 64) := by
      rw [chL_len]; apply List.ext_getElem <;> simp
    rw [hz]
    have hg : d.cache ++ putW s data (List.range (chK data.length 64)) = (putG d s data).cache := rfl
    simp only [L_put, hPt, hg, TT, ↓reduceIte, Nat.reduceEqDiff, Nat.reduceAdd, Nat.reduceMul, reduceCtorEq, Nat.reduceLeDiff]
    refine Ends.weak (Weak.freezeC 3 rfl (l := [(6, .op 1 0)]) (h := [(1, .row true 39 [fL true d.sectors, fWrs true (putG d s data).cache])]) ?_ ?_) (Ends.data (.inr rfl) (by simp [ET]; exact ⟨rfl, rfl⟩) (al_aDk _))
    · simp [WT]
    · have htk : List.take ((putG d s data).cache.length * 2) (eWrs true (putG d s data).cache) = eWrs true (putG d s data).cache := List.take_of_length_le (by rw [len_Wrs]; exact Nat.le_refl _)
      simp [WT, htk]
end Go.Proofs.YtdenddhdeloceaaDoor
/- Contract: disk.PutAll. -/
namespace Go.Proofs.YtdenddhdeloceaaDoor
open Go.RowKit
set_option maxRecDepth 100000
noncomputable def putAllD (d : Dk) (s : Int) (data : List Int) : Dk × Int := if dkE d ≠ 0 then (dk0, dkE d) else if ¬ ((0 : Int) ≤ s ∧ (0 : Int) ≤ (chK data.length 64 : Int) ∧ s ≤ d.sectors.length ∧ (chK data.length 64 : Int) ≤ d.sectors.length - s) then (dk0, 41)
  else if (4096 - d.cache.length : Int) < (chK data.length 64 : Int) then (dk0, 51) else (putG d s data, 0)
theorem dkE_cases (d : Dk) : (dkE d = 0 ∧ okD d) ∨ (dkE d = 9 ∧ ¬ okD d) := by
  by_cases h : okD d
  · exact .inl ⟨dkE_ok h, h⟩
  · exact .inr ⟨dkE_no h, h⟩
set_option maxHeartbeats 2000000 in
theorem putAll_spec (fr fk : Bool) (d : Dk) (s : Int) (data : List Int) (nb : Nat) (hl : d.sectors.length ≤ 140737488355328) (hs : s ≤ 4096 ∧ -4096 ≤ s) (hd : data.length ≤ 140737488355328) :
    ASound Tryd.prog 22 [aDk fr d, .v (.int .i64 s), fB fk data] nb (.ret (.tup [aDk true (putAllD d s data).1, .v (.int .i64 (putAllD d s data).2)]) []) := by
  refine ok_22.sound (by simp) ⟨al_aDk d, trivial, al_fB data, trivial⟩ ?_
  have hc := dcheck_spec fr d
  simp only [aDk, fL, fWrs] at hc
  simp only [ac_22, TT, ↓reduceIte, Nat.reduceEqDiff, Nat.reduceAdd, Nat.reduceMul, reduceCtorEq, Nat.reduceLeDiff]
  refine ⟨_, hc _ hl, ?_⟩
  rcases dkE_cases d with ⟨hE, hok⟩ | ⟨hE, hok⟩
  · have hf := hok.few
    have x1 : IntKind.i64.wrap ((data.length : Int) + 64) = (data.length : Int) + 64 := wrap64 (by omega)
    have x2 : IntKind.i64.wrap ((data.length : Int) + 64 - 1) = (data.length : Int) + 64 - 1 := wrap64 (by omega)
    have z64 : ((64 : Int) = 0) = False := eq_false (by decide)
    have hK : chK data.length 64 ≤ 2199023255552 := by unfold chK; omega
    have x3 : IntKind.i64.wrap (Int.tdiv ((data.length : Int) + 64 - 1) 64) = (chK data.length 64 : Int) := by
      rw [show (data.length : Int) + 64 - 1 = ((data.length + 64 - 1 : Nat) : Int) from by omega, show (64 : Int) = ((64 : Nat) : Int) from rfl, Int.tdiv_eq_ediv_of_nonneg (by omega), ← Int.natCast_ediv, wrap64 (by have := hK; unfold chK at this; omega)]
      rfl
    have hr := room_spec fr d s (chK data.length 64 : Int)
    simp only [aDk, fL, fWrs] at hr
    rw [hE]
    simp only [not_true_eq_false, x1, x2, x3, z64, TT, ↓reduceIte, Nat.reduceEqDiff, Nat.reduceAdd, Nat.reduceMul, reduceCtorEq, Nat.reduceLeDiff]
    refine ⟨_, hr _ (by omega) hs, ?_⟩
    by_cases hroom : (0 : Int) ≤ s ∧ (0 : Int) ≤ (chK data.length 64 : Int) ∧ s ≤ d.sectors.length ∧ (chK data.length 64 : Int) ≤ d.sectors.length - s
    · simp only [decide_eq_true hroom, TT, ↓reduceIte, Nat.reduceEqDiff, Nat.reduceAdd, Nat.reduceMul, reduceCtorEq, Nat.reduceLeDiff]
      have x4 : IntKind.i64.wrap (4096 - (d.cache.length : Int)) = 4096 - (d.cache.length : Int) := wrap64 (by omega)
      by_cases hfull : (4096 - d.cache.length : Int) < (chK data.length 64 : Int)
      · have hp : putAllD d s data = (dk0, 51) := by unfold putAllD; rw [if_neg (by rw [hE]; simp), if_neg (by simpa using hroom), if_pos hfull]
        rw [hp]
        simp only [x4, hfull, TT, ↓reduceIte, Nat.reduceEqDiff, Nat.reduceAdd, Nat.reduceMul, reduceCtorEq, Nat.reduceLeDiff]
        exact Ends.imp (r0 := .tup [dz, .v (.int .i64 51)]) (.inr rfl) (by simp [ET]) (al_dz _) (imp_dk0 _)
      · have hp : putAllD d s data = (putG d s data, 0) := by unfold putAllD; rw [if_neg (by rw [hE]; simp), if_neg (by simpa using hroom), if_neg hfull]
        have hps := put_spec fr fk d s data
        simp only [aDk, fB, fL, fWrs] at hps
        rw [hp]
        simp only [x4, hfull, TT, ↓reduceIte, Nat.reduceEqDiff, Nat.reduceAdd, Nat.reduceMul, reduceCtorEq, Nat.reduceLeDiff]
        refine ⟨_, hps _ hok ⟨hs.2, hs.1⟩ hd, ?_⟩
        simp only [TT, ↓reduceIte, Nat.reduceEqDiff, Nat.reduceAdd, Nat.reduceMul, reduceCtorEq, Nat.reduceLeDiff]
        exact Ends.data (.inr rfl) (by simp [ET]) ⟨al_aDk _, trivial, trivial⟩
    · have hp : putAllD d s data = (dk0, 41) := by unfold putAllD; rw [if_neg (by rw [hE]; simp), if_pos (by simpa using hroom)]
      rw [hp]
      simp only [decide_eq_false hroom, TT, ↓reduceIte, Nat.reduceEqDiff, Nat.reduceAdd, Nat.reduceMul, reduceCtorEq, Nat.reduceLeDiff]
      exact Ends.imp (r0 := .tup [dz, .v (.int .i64 41)]) (.inr rfl) (by simp [ET]) (al_dz _) (imp_dk0 _)
  · have hp : putAllD d s data = (dk0, 9) := by unfold putAllD; rw [if_pos (by rw [hE]; simp), hE]
    rw [hp, hE]
    have n9 : ((9 : Int) = 0) = False := eq_false (by decide)
    simp only [n9, not_false_eq_true, TT, ↓reduceIte, Nat.reduceEqDiff, Nat.reduceAdd, Nat.reduceMul, reduceCtorEq, Nat.reduceLeDiff]
    exact Ends.imp (r0 := .tup [dz, .v (.int .i64 9)]) (.inr rfl) (by simp [ET]) (al_dz _) (imp_dk0 _)
/-- what is put of 512 octets -/
theorem putAllD_512 {d : Dk} (h : okD d) {s : Nat} {data : List Int} (hd : data.length = 512) (hs : s + 8 ≤ d.sectors.length) : putAllD d s data = if d.cache.length + 8 ≤ 4096 then (putD d s data, 0) else (dk0, 51) := by
  have hK : chK data.length 64 = 8 := by rw [hd]; rfl
  unfold putAllD
  rw [if_neg (by rw [dkE_ok h]; simp), hK, if_neg (by simp; omega)]
  have hg : putG d s data = putD d s data := by
    unfold putG putD
    rw [hK]
    congr 2
    unfold putW putL
    apply List.ext_getElem
    · simp
    · intro i h1 h2
      have hi : i < 8 := by simpa using h1
      have hc : chk data i = chunk data i := by unfold chk chunk; rw [Nat.mul_comm, Nat.min_eq_left (by omega)]
      simp [hc, pad_full (chunk_len hd hi)]
  by_cases hov : d.cache.length + 8 ≤ 4096
  · rw [if_pos hov, if_neg (by omega), hg]
  · rw [if_neg hov, if_pos (by omega)]
end Go.Proofs.YtdenddhdeloceaaDoor
/- Contract: point.Store. -/
namespace Go.Proofs.YtdenddhdeloceaaDoor
open Go.RowKit
set_option maxRecDepth 100000
set_option maxHeartbeats 4000000 in
theorem store_spec (fr fp : Bool) (d : Dk) (p : Pt) (nb : Nat) (hl : d.sectors.length ≤ 140737488355328) : ASound Tryd.prog 11 [aDk fr d, aPt fp p] nb (.ret (.tup [aDk true (storeD d p).1, .v (.int .i64 (storeD d p).2)]) []) := by
  refine ok_11.sound (by simp) ⟨al_aDk d, al_aPt p, trivial⟩ ?_
  have ha := asked_spec fr d
  have he := pencode_spec fp p
  simp only [aDk, fL, fWrs] at ha
  simp only [aPt, fB] at he
  simp only [ac_11, TT, ↓reduceIte, Nat.reduceEqDiff, Nat.reduceAdd, Nat.reduceMul, reduceCtorEq, Nat.reduceLeDiff]
  refine ⟨_, ha _ hl, ?_⟩
  by_cases hA : askE d = 0
  · obtain ⟨hok, h16⟩ := askE_iff.1 hA
    rw [hA]
    simp only [not_true_eq_false, TT, ↓reduceIte, Nat.reduceEqDiff, Nat.reduceAdd, Nat.reduceMul, reduceCtorEq, Nat.reduceLeDiff]
    refine ⟨_, he _, ?_⟩
    by_cases hE : ptE p = 0
    · have hp := (okP_iff p).1 hE
      have hen : encP p = (pad 512 (bodyP p), 0) := by rw [encP, if_pos hE]
      have hlen : (pad 512 (bodyP p)).length = 512 := pad_len (by have := bodyP_le hp; omega)
      have h0 : 0 ≤ p.epoch ∧ p.epoch ≤ 1099511627776 := by have := hp.nums p.epoch (by simp [numsP]); omega
      have hsl : slotP p + 8 ≤ d.sectors.length := by unfold slotP; omega
      have hs16 : slotP p ≤ 8 := by unfold slotP; omega
      have hrem : IntKind.i64.wrap (Int.tmod p.epoch 2 * 8) = (slotP p : Int) := by
        rw [Int.tmod_eq_emod_of_nonneg h0.1, wrap64 (by omega)]
        unfold slotP; omega
      have z2 : ((2 : Int) = 0) = False := eq_false (by decide)
      have hpa := putAll_spec fr true d (slotP p : Int) (pad 512 (bodyP p))
      rw [putAllD_512 hok hlen hsl] at hpa
      simp only [aDk, fB, fL, fWrs] at hpa
      rw [hen]
      have hst : storeD d p = if d.cache.length + 8 ≤ 4096 then (flushD (putD d (slotP p) (pad 512 (bodyP p))), 0) else (dk0, 51) := by
        unfold storeD; rw [if_neg (by rw [hA]; simp), if_neg (by rw [hE]; simp), hen]
      by_cases hov : d.cache.length + 8 ≤ 4096
      · have hfl := flush_spec true (putD d (slotP p) (pad 512 (bodyP p)))
        simp only [aDk, fL, fWrs] at hfl
        rw [hst, if_pos hov]
        simp only [if_pos hov] at hpa
        have hokD := okD_put (data := pad 512 (bodyP p)) hok hlen hsl hov
        simp only [z2, hrem, not_true_eq_false, TT, ↓reduceIte, Nat.reduceEqDiff, Nat.reduceAdd, Nat.reduceMul, reduceCtorEq, Nat.reduceLeDiff]
        refine ⟨_, hpa _ hl (by omega) (by omega), ?_⟩
        generalize putD d (slotP p) (pad 512 (bodyP p)) = D at hfl hokD
        simp only [not_true_eq_false, TT, ↓reduceIte, Nat.reduceEqDiff, Nat.reduceAdd, Nat.reduceMul, reduceCtorEq, Nat.reduceLeDiff]
        refine ⟨_, hfl _ hokD, ?_⟩
        simp only [TT, ↓reduceIte, Nat.reduceEqDiff, Nat.reduceAdd, Nat.reduceMul, reduceCtorEq, Nat.reduceLeDiff]
        exact Ends.data (r := .tup [aDk true (flushD D), .v (.int .i64 0)]) (.inr rfl) (by simp [ET, aDk, fL, fWrs]) ⟨al_aDk _, trivial, trivial⟩
      · have e51 : ¬ (51 : Int) = 0 := by decide
        rw [hst, if_neg hov]
        simp only [if_neg hov] at hpa
        simp only [z2, hrem, not_true_eq_false, TT, ↓reduceIte, Nat.reduceEqDiff, Nat.reduceAdd, Nat.reduceMul, reduceCtorEq, Nat.reduceLeDiff]
        refine ⟨_, hpa _ hl (by omega) (by omega), ?_⟩
        simp only [e51, not_false_eq_true, TT, ↓reduceIte, Nat.reduceEqDiff, Nat.reduceAdd, Nat.reduceMul, reduceCtorEq, Nat.reduceLeDiff]
        exact Ends.imp (r0 := .tup [dz, .v (.int .i64 51)]) (.inr rfl) (by simp [ET]) (al_dz _) (imp_dk0 _)
    · have hen : encP p = ([], ptE p) := by rw [encP, if_neg hE]
      have hst : storeD d p = (dk0, ptE p) := by unfold storeD; rw [if_neg (by rw [hA]; simp), if_pos hE]
      rw [hen, hst]
      simp only [hE, not_false_eq_true, TT, ↓reduceIte, Nat.reduceEqDiff, Nat.reduceAdd, Nat.reduceMul, reduceCtorEq, Nat.reduceLeDiff]
      exact Ends.imp (r0 := .tup [dz, .v (.int .i64 (ptE p))]) (.inr rfl) (by simp [ET]) (al_dz _) (imp_dk0 _)
  · have hst : storeD d p = (dk0, askE d) := by unfold storeD; rw [if_pos hA]
    rw [hst]
    simp only [hA, not_false_eq_true, TT, ↓reduceIte, Nat.reduceEqDiff, Nat.reduceAdd, Nat.reduceMul, reduceCtorEq, Nat.reduceLeDiff]
    exact Ends.imp (r0 := .tup [dz, .v (.int .i64 (askE d))]) (.inr rfl) (by simp [ET]) (al_dz _) (imp_dk0 _)
end Go.Proofs.YtdenddhdeloceaaDoor
/- Contract: point.Load. -/
namespace Go.Proofs.YtdenddhdeloceaaDoor
open Go.RowKit
set_option maxRecDepth 100000
def accP (b x : Pt × Int) : Pt × Int := if x.2 = 0 ∧ (b.2 ≠ 0 ∨ b.1.epoch < x.1.epoch) then (x.1, 0) else b
def bestP (d : Dk) : Nat → Pt × Int
  | 0 => (pt0, 21)
  | i + 1 => accP (bestP d i) (decP (getD d (8 * i) 8))
theorem accP_pick (x y : Pt × Int) : accP (accP (pt0, 21) x) y = pickP x y := by
  obtain ⟨x, e⟩ := x
  obtain ⟨y, f⟩ := y
  unfold accP pickP
  by_cases he : e = 0 <;> by_cases hf : f = 0 <;> simp [he, hf]
abbrev cPt (p : Pt) : List AV := [.v (.int .i64 p.epoch), .v (.int .i64 p.seq), .v (.int .i64 p.view), .v (.int .i64 p.commit), fB true p.data]
abbrev zPt : AObj := .row true 29 [.v (.int .i64 0), .v (.int .i64 0), .v (.int .i64 0), .v (.int .i64 0), .v (.slice none 0 0)]
abbrev L_lo (fr : Bool) (d : Dk) (i : Nat) : ASt := ⟨envOf [(1, .op 0 0), (2, .op 1 0), (5, .op 2 0), (6, .v (.int .i64 (bestP d i).2)), (19, .v (.int .i64 i))],
  heapOf [(0, .row true 39 [fL fr d.sectors, fWrs fr d.cache]), (1, zPt), (2, .row true 29 (cPt (bestP d i).1))], 3⟩
set_option maxHeartbeats 4000000 in
theorem load_spec (fr : Bool) (d : Dk) (nb : Nat) (ho : octD d) (hl : d.sectors.length ≤ 140737488355328) : ASound Tryd.prog 12 [aDk fr d] nb (.ret (.tup [aPt true (loadD d).1, .v (.int .i64 (loadD d).2)]) []) := by
  refine ok_12.sound (by simp) ⟨al_aDk d, trivial⟩ ?_
  have ha := asked_spec fr d
  simp only [aDk, fL, fWrs] at ha
  simp only [ac_12, TT, ↓reduceIte, Nat.reduceEqDiff, Nat.reduceAdd, Nat.reduceMul, reduceCtorEq, Nat.reduceLeDiff]
  refine ⟨_, ha _ hl, ?_⟩
  by_cases hA : askE d = 0
  · obtain ⟨hok, h16⟩ := askE_iff.1 hA
    have hst : loadD d = bestP d 2 := by
      unfold loadD; rw [if_neg (by rw [hA]; simp), bestP, bestP, bestP, accP_pick]
    rw [hA, hst]
    simp only [not_true_eq_false, TT, ↓reduceIte, Nat.reduceEqDiff, Nat.reduceAdd, Nat.reduceMul, reduceCtorEq, Nat.reduceLeDiff]
    refine AWc.family (L_lo fr d) (fun i => i ≤ 2) (fun i => 2 - i) 0 (Nat.zero_le _) ?_ ?_
    · refine Weak.trans (Weak.calc (l := [(1, .op 0 0), (2, .op 1 0), (5, .op 2 0), (6, .v (.int .i64 21)), (19, .v (.int .i64 0))]) (h := [(0, .row true 39 [fL fr d.sectors, fWrs fr d.cache]), (1, zPt), (2, zPt)]) (nx := 3) [(0, 0), (100000, 1), (900000, 2)] (by decide) ?_ ?_) (Weak.imps _ _ (fun t v hm => ?_) (fun j o hm => ?_))
      · simp [WT]
      · simp [WT]
      · simp only [List.mem_cons, Prod.mk.injEq, List.not_mem_nil, or_false] at hm
        rcases hm with ⟨rfl, rfl⟩ | ⟨rfl, rfl⟩ | ⟨rfl, rfl⟩ | ⟨rfl, rfl⟩ | ⟨rfl, rfl⟩ <;> exact Imp.refl _
      · simp only [List.mem_cons, Prod.mk.injEq, List.not_mem_nil, or_false] at hm
        rcases hm with ⟨rfl, rfl⟩ | ⟨rfl, rfl⟩ | ⟨rfl, rfl⟩
        · exact ⟨_, _, _, _, rfl, rfl, Nat.le_refl _, fun k x hx => ⟨x, hx, Imp.refl x⟩⟩
        · exact ⟨_, _, _, _, rfl, rfl, Nat.le_refl _, fun k x hx => ⟨x, hx, Imp.refl x⟩⟩
        · refine ⟨true, 29, [.v (.int .i64 0), .v (.int .i64 0), .v (.int .i64 0), .v (.int .i64 0), .v (.slice none 0 0)], cPt (bestP d 0).1, rfl, rfl, Nat.le_refl _, fun k x hx => ?_⟩
          match k, hx with
          | 0, hx => cases hx; exact ⟨_, rfl, Imp.refl _⟩
          | 1, hx => cases hx; exact ⟨_, rfl, Imp.refl _⟩
          | 2, hx => cases hx; exact ⟨_, rfl, Imp.refl _⟩
          | 3, hx => cases hx; exact ⟨_, rfl, Imp.refl _⟩
          | 4, hx => cases hx; exact ⟨_, rfl, Imp.nil true⟩
          | k + 5, hx => simp at hx
    · intro i hi
      by_cases hlt : i < 2
      · have e1 : ((i : Int) < 2) := by omega
        have w2 : IntKind.i64.wrap ((i : Int) * 8) = ((8 * i : Nat) : Int) := by rw [wrap64 (by omega)]; omega
        have w3 : IntKind.i64.wrap ((i : Int) + 1) = ((i + 1 : Nat) : Int) := by rw [wrap64 (by omega)]; omega
        have g1 := getAll_ok fr d (8 * i) 8
        have l1 := getD_len hok (8 * i) 8 (by omega)
        have o1 := getD_okB ho (8 * i) 8
        have d1 := pdecode_spec true (getD d (8 * i) 8)
        have hb : bestP d (i + 1) = accP (bestP d i) (decP (getD d (8 * i) 8)) := rfl
        simp only [L_lo]
        generalize getD d (8 * i) 8 = A at g1 l1 d1 o1 hb
        simp only [aDk, fB, fL, fWrs, show ((8 : Nat) : Int) = 8 from rfl] at g1
        simp only [fB, aPt] at d1
        generalize decP A = x at d1 hb
        generalize bestP d i = b at hb
        obtain ⟨x, e⟩ := x
        obtain ⟨b, c⟩ := b
        simp only [e1, w2, TT, ↓reduceIte, Nat.reduceEqDiff, Nat.reduceAdd, Nat.reduceMul, reduceCtorEq, Nat.reduceLeDiff]
        refine ⟨_, g1 _ hok (by omega), ?_⟩
        simp only [TT, ↓reduceIte, Nat.reduceEqDiff, Nat.reduceAdd, Nat.reduceMul, reduceCtorEq, Nat.reduceLeDiff]
        refine ⟨_, d1 _ o1 (by omega), ?_⟩
        simp only at d1 ⊢
        by_cases he : e = 0
        · subst he
          by_cases hc : c = 0
          · subst hc
            by_cases hlt2 : b.epoch < x.epoch
            · have hb' : accP (b, 0) (x, 0) = (x, 0) := by simp [accP, hlt2]
              rw [hb'] at hb
              simp only [hlt2, not_true_eq_false, TT, ↓reduceIte, Nat.reduceEqDiff, Nat.reduceAdd, Nat.reduceMul, reduceCtorEq, Nat.reduceLeDiff]
              refine famC_next (i + 1) (by omega) (by omega) ?_
              refine Weak.calc [(0, 0), (1, 1), (2, 2)] (by decide) ?_ ?_ <;> simp [WT, hb, w3, fB, fL, fWrs]
            · have hb' : accP (b, 0) (x, 0) = (b, 0) := by simp [accP, hlt2]
              rw [hb'] at hb
              simp only [hlt2, not_true_eq_false, TT, ↓reduceIte, Nat.reduceEqDiff, Nat.reduceAdd, Nat.reduceMul, reduceCtorEq, Nat.reduceLeDiff]
              refine famC_next (i + 1) (by omega) (by omega) ?_
              refine Weak.calc [(0, 0), (1, 1), (2, 2)] (by decide) ?_ ?_ <;> simp [WT, hb, w3, fB, fL, fWrs]
          · have hb' : accP (b, c) (x, 0) = (x, 0) := by simp [accP, hc]
            rw [hb'] at hb
            simp only [hc, not_true_eq_false, not_false_eq_true, TT, ↓reduceIte, Nat.reduceEqDiff, Nat.reduceAdd, Nat.reduceMul, reduceCtorEq, Nat.reduceLeDiff]
            refine famC_next (i + 1) (by omega) (by omega) ?_
            refine Weak.calc [(0, 0), (1, 1), (2, 2)] (by decide) ?_ ?_ <;> simp [WT, hb, w3, fB, fL, fWrs]
        · have hb' : accP (b, c) (x, e) = (b, c) := by simp [accP, he]
          rw [hb'] at hb
          simp only [he, not_true_eq_false, not_false_eq_true, TT, ↓reduceIte, Nat.reduceEqDiff, Nat.reduceAdd, Nat.reduceMul, reduceCtorEq, Nat.reduceLeDiff]
          refine famC_next (i + 1) (by omega) (by omega) ?_
          refine Weak.calc [(0, 0), (1, 1), (2, 2)] (by decide) ?_ ?_ <;> simp [WT, hb, w3, fB, fL, fWrs]
      · obtain rfl : i = 2 := by omega
        have e1 : ¬ (((2 : Nat) : Int) < 2) := by omega
        simp only [L_lo]
        generalize bestP d 2 = b
        obtain ⟨b, c⟩ := b
        simp only [e1, TT, ↓reduceIte, Nat.reduceEqDiff, Nat.reduceAdd, Nat.reduceMul, reduceCtorEq, Nat.reduceLeDiff]
        exact Ends.data (r := .tup [aPt true b, .v (.int .i64 c)]) (.inr rfl) (by simp [ET, aPt, fB]) ⟨al_aPt _, trivial, trivial⟩
  · have hst : loadD d = (pt0, askE d) := by unfold loadD; rw [if_pos hA]
    rw [hst]
    simp only [hA, not_false_eq_true, TT, ↓reduceIte, Nat.reduceEqDiff, Nat.reduceAdd, Nat.reduceMul, reduceCtorEq, Nat.reduceLeDiff]
    exact Ends.imp (r0 := .tup [pz, .v (.int .i64 (askE d))]) (.inr rfl) (by simp [ET]) (al_pz _) (imp_pt0 _)
end Go.Proofs.YtdenddhdeloceaaDoor
/- Plain: points on disks. -/
namespace Go.Proofs.YtdenddhdeloceaaDoor
open Go.RowKit
theorem ASound.args {P : Program} {f : FuncId} {args args' : List AV} {nb : Nat} {am : AM} (h : ASound P f args nb am) (hi : ImpL args' args) : ASound P f args' nb am :=
  ⟨h.1, fun c us r R W hrun hr hfr hv => h.2 c us r R W hrun hr hfr (by
    obtain ⟨e1, e2⟩ := ImpL_get hi
    rw [VRt_iff] at hv ⊢
    refine ⟨by omega, fun j a hj => ?_⟩
    obtain ⟨x, hx, hix⟩ := e2 j a hj
    obtain ⟨u, k1, k2⟩ := hv.2 j x hx
    exact ⟨u, k1, hix c u k2⟩)⟩
def landT (ss : List (List Int)) (l : List Wr) : List (List Int) := landL ss (l.map fun w => (true, w))
theorem flushD_eq (d : Dk) : flushD d = ⟨landT d.sectors d.cache, []⟩ := by
  unfold flushD crashD landT
  congr 2
  apply List.ext_getElem <;> simp
theorem landL_append : ∀ (a b : List (Bool × Wr)) (ss : List (List Int)), landL ss (a ++ b) = landL (landL ss a) b
  | [], _, _ => rfl
  | (k, w) :: a, b, ss => by rw [List.cons_append, landL, landL, landL_append a b]
theorem landT_snoc (ss : List (List Int)) (l : List Wr) (w : Wr) : landT ss (l ++ [w]) = (landT ss l).set w.sec.toNat w.data := by
  unfold landT; rw [List.map_append, landL_append]; rfl
theorem landT_len (ss : List (List Int)) (l : List Wr) : (landT ss l).length = ss.length := landL_len _ _
theorem landT_putL (ss : List (List Int)) (s : Nat) (data : List Int) : ∀ (n j : Nat), s + n ≤ ss.length → (landT ss (putL s data n))[j]? = if s ≤ j ∧ j < s + n then some (chunk data (j - s)) else ss[j]?
  | 0, j, _ => by rw [if_neg (by omega)]; rfl
  | n + 1, j, h => by
    rw [putL_s, landT_snoc]
    show ((landT ss (putL s data n)).set ((s + n : Nat) : Int).toNat (chunk data n))[j]? = _
    rw [Int.toNat_natCast, List.getElem?_set]
    by_cases e : s + n = j
    · subst e
      rw [if_pos rfl, if_pos (by rw [landT_len]; omega), if_pos (by omega), show s + n - s = n from by omega]
    · rw [if_neg e, landT_putL ss s data n j (by omega)]
      by_cases h2 : s ≤ j ∧ j < s + n
      · rw [if_pos h2, if_pos (by omega)]
      · rw [if_neg h2, if_neg (by omega)]
theorem flat_chunk (data : List Int) : ∀ n, (List.range n).flatMap (chunk data) = data.take (64 * n)
  | 0 => by simp
  | n + 1 => by
    rw [List.range_succ, List.flatMap_append, flat_chunk data n]
    simp only [List.flatMap_cons, List.flatMap_nil, List.append_nil]
    rw [chunk, Nat.mul_succ, List.take_add]
/-- region k -/
def regD (d : Dk) (k : Nat) : List Int := getD d (8 * k) 8
theorem secAt_nil {d : Dk} (hc : d.cache = []) (k : Nat) : secAt d k = (d.sectors[k]?).getD [] := by unfold secAt; rw [hc]; rfl
structure cleanD (d : Dk) : Prop where
  ok : okD d
  few : 16 ≤ d.sectors.length
  cache : d.cache = []
/-- what a store makes -/
def stD (d : Dk) (k : Nat) (data : List Int) : Dk := flushD (putD d (8 * k) data)
theorem stD_sectors {d : Dk} (h : cleanD d) (k : Nat) (data : List Int) : (stD d k data).sectors = landT d.sectors (putL (8 * k) data 8) := by
  unfold stD; rw [flushD_eq, putD, h.cache]; rfl
theorem stD_clean {d : Dk} (h : cleanD d) {k : Nat} (hk : k < 2) {data : List Int} (hd : data.length = 512) : cleanD (stD d k data) := by
  have hf := h.few
  have hs := stD_sectors h k data
  have hl : (stD d k data).sectors.length = d.sectors.length := by rw [hs, landT_len]
  have hc : (stD d k data).cache = [] := by unfold stD; rw [flushD_eq]
  refine ⟨⟨?_, fun t ht => ?_, fun w hw => by rw [hc] at hw; cases hw⟩, by rw [hl]; exact hf, hc⟩
  · have := h.ok.few; rw [hl, hc]; simp only [List.length_nil]; omega
  · rw [hs] at ht
    obtain ⟨j, hj⟩ := List.mem_iff_getElem?.1 ht
    rw [landT_putL _ _ _ _ _ (by omega)] at hj
    split at hj
    · cases hj; exact chunk_len hd (by omega)
    · exact h.ok.secs t (List.mem_of_getElem? hj)
theorem regD_st {d : Dk} (h : cleanD d) {k : Nat} (hk : k < 2) {data : List Int} (hd : data.length = 512) : regD (stD d k data) k = data := by
  have hf := h.few
  unfold regD getD
  have : ∀ i ∈ List.range 8, secAt (stD d k data) (8 * k + i) = chunk data i := fun i hi => by
    rw [List.mem_range] at hi
    rw [secAt_nil (stD_clean h hk hd).cache, stD_sectors h, landT_putL _ _ _ _ _ (by omega), if_pos (by omega), show 8 * k + i - 8 * k = i from by omega]
    rfl
  have e : (List.range 8).flatMap (fun i => secAt (stD d k data) (8 * k + i)) = (List.range 8).flatMap (chunk data) := by
    rw [List.flatMap_def, List.flatMap_def, List.map_congr_left this]
  rw [e, flat_chunk, List.take_of_length_le (by omega)]
theorem regD_other {d : Dk} (h : cleanD d) {k j : Nat} (hk : k < 2) (hj : j < 2) (hne : j ≠ k) {data : List Int} (hd : data.length = 512) : regD (stD d k data) j = regD d j := by
  have hf := h.few
  unfold regD getD
  have : ∀ i ∈ List.range 8, secAt (stD d k data) (8 * j + i) = secAt d (8 * j + i) := fun i hi => by
    rw [List.mem_range] at hi
    rw [secAt_nil (stD_clean h hk hd).cache, secAt_nil h.cache, stD_sectors h, landT_putL _ _ _ _ _ (by omega), if_neg (by omega)]
  rw [List.flatMap_def, List.flatMap_def, List.map_congr_left this]
theorem encP_len {p : Pt} (h : okP p) : (encP p).1.length = 512 := by
  rw [encP, if_pos ((okP_iff p).2 h)]; exact pad_len (by have := bodyP_le h; omega)
/-- the region of a point -/
def regP (p : Pt) : Nat := p.epoch.toNat % 2
theorem regP_lt (p : Pt) : regP p < 2 := Nat.mod_lt _ (by decide)
theorem askE_clean {d : Dk} (h : cleanD d) : askE d = 0 := askE_ok h.ok (by have := h.few; omega)
theorem storeD_clean {d : Dk} (h : cleanD d) {p : Pt} (hp : okP p) : storeD d p = (stD d (regP p) (encP p).1, 0) := by
  unfold storeD
  rw [if_neg (by rw [askE_clean h]; simp), if_neg (by rw [(okP_iff p).2 hp]; simp), if_pos (by rw [h.cache]; simp)]
  rfl
theorem storeD_bad {d : Dk} (h : cleanD d) {p : Pt} (hp : ¬ okP p) : (storeD d p).2 ≠ 0 := by
  unfold storeD
  rw [if_neg (by rw [askE_clean h]; simp), if_pos (fun h9 => hp ((okP_iff p).1 h9))]
  exact fun h9 => hp ((okP_iff p).1 h9)
theorem loadD_clean {d : Dk} (h : cleanD d) : loadD d = pickP (decP (regD d 0)) (decP (regD d 1)) := by
  unfold loadD; rw [if_neg (by rw [askE_clean h]; simp)]; rfl
theorem zeros_clean : cleanD (zerosD 16) := by
  refine ⟨⟨?_, fun t ht => ?_, fun w hw => by cases hw⟩, ?_, rfl⟩
  · simp [zerosD]
  · have := List.eq_of_mem_replicate ht; subst this; rfl
  · simp [zerosD]
/-! octets -/
theorem okB_gp : ∀ (m : Nat), okB (gp m) := by
  intro m
  induction m using Nat.strongRecOn with
  | _ m ih =>
    by_cases h : m < 128
    · rw [gp_small h]; intro x hx; simp at hx; omega
    · rw [gp_big h]; intro x hx
      rcases List.mem_cons.1 hx with e | e
      · omega
      · exact ih (m / 128) (by omega) x e
theorem okB_flat {α : Type} {f : α → List Int} {l : List α} (h : ∀ a ∈ l, okB (f a)) : okB (l.flatMap f) := fun x hx => by
  obtain ⟨a, ha, hx⟩ := List.mem_flatMap.1 hx
  exact h a ha x hx
theorem okB_enc {r : Rec} (h : okR r) (ht : ∀ t ∈ r.texts, okB t) : okB (encR r) := by
  have hk := h.kind
  have hm := h.many
  unfold encR
  refine okB_app (okB_app ?_ (okB_flat fun n _ => okB_gp _)) ?_
  · intro x hx; simp at hx; omega
  · intro x hx
    rcases List.mem_cons.1 hx with e | e
    · omega
    · exact okB_flat (fun t ht' => okB_app (okB_gp _) (ht t ht')) x e
theorem okB_low4 (c : BitVec 32) : okB (low4 c) := by
  intro x hx
  unfold low4 at hx
  simp only [List.mem_cons, List.not_mem_nil, or_false] at hx
  omega
theorem okB_encP {p : Pt} (hp : okB p.data) : okB (encP p).1 := by
  unfold encP
  split
  · rename_i h
    have hp' := (okP_iff p).1 h
    have hl := sealP_le hp'
    refine okB_app (okB_app ?_ (okB_app (okB_enc (okR_P hp') ?_) (okB_low4 _))) ?_
    · intro x hx; simp only [List.mem_cons, List.not_mem_nil, or_false] at hx; omega
    · intro t ht; simp [recP] at ht; subst ht; exact hp
    · intro x hx; have := List.eq_of_mem_replicate hx; omega
  · intro x hx; cases hx
theorem oct_st {d : Dk} (h : cleanD d) (ho : octD d) {k : Nat} (hk : k < 2) {data : List Int} (hb : okB data) : octD (stD d k data) := by
  have hf := h.few
  refine ⟨fun t ht => ?_, fun w hw => by unfold stD at hw; rw [flushD_eq] at hw; cases hw⟩
  rw [stD_sectors h] at ht
  obtain ⟨j, hj⟩ := List.mem_iff_getElem?.1 ht
  rw [landT_putL _ _ _ _ _ (by omega)] at hj
  split at hj
  · cases hj; exact okB_take (okB_drop hb _) _
  · exact ho.secs t (List.mem_of_getElem? hj)
theorem oct_zeros : octD (zerosD 16) := by
  refine ⟨fun t ht => ?_, fun w hw => by cases hw⟩
  have := List.eq_of_mem_replicate ht; subst this
  intro x hx
  have := List.eq_of_mem_replicate hx; omega
/-! the page's example -/
def al1 : Pt := ⟨1, 0, 0, 0, []⟩
def al2 : Pt := ⟨2, 7, 0, 0, []⟩
theorem al1_ok : okP al1 := ⟨by simp [al1, numsP], by simp [al1]⟩
theorem al2_ok : okP al2 := ⟨by simp [al2, numsP], by simp [al2]⟩
def alD1 : Dk := stD (zerosD 16) 1 (encP al1).1
def alD2 : Dk := stD alD1 0 (encP al2).1
theorem alD1_clean : cleanD alD1 := stD_clean zeros_clean (by decide) (encP_len al1_ok)
theorem alD2_clean : cleanD alD2 := stD_clean alD1_clean (by decide) (encP_len al2_ok)
theorem alD1_store : storeD (zerosD 16) al1 = (alD1, 0) := storeD_clean zeros_clean al1_ok
theorem alD2_store : storeD alD1 al2 = (alD2, 0) := storeD_clean alD1_clean al2_ok
theorem okB_nil : okB [] := fun _ h => by cases h
theorem alD2_oct : octD alD2 := oct_st alD1_clean (oct_st zeros_clean oct_zeros (by decide) (okB_encP okB_nil)) (by decide) (okB_encP okB_nil)
theorem alD2_load : loadD alD2 = (al2, 0) := by
  rw [loadD_clean alD2_clean]
  have h0 : regD alD2 0 = (encP al2).1 := regD_st alD1_clean (by decide) (encP_len al2_ok)
  have h1 : regD alD2 1 = (encP al1).1 := (regD_other alD1_clean (by decide) (by decide) (by decide) (encP_len al2_ok)).trans (regD_st zeros_clean (by decide) (encP_len al1_ok))
  rw [h0, h1, decP_encP al2_ok, decP_encP al1_ok]
  simp [pickP, al1, al2]
theorem encP_le (p : Pt) : (encP p).1.length ≤ 512 := by
  by_cases h : okP p
  · rw [encP_len h]; omega
  · rw [encP, if_neg (fun h9 => h ((okP_iff p).1 h9))]; simp
theorem decP_ok (l : List Int) : (decP l).1 = pt0 ∨ okP (decP l).1 := by
  unfold decP
  split
  · split
    · exact .inl rfl
    · unfold decP2
      split
      · exact .inl rfl
      · split
        · exact .inl rfl
        · split
          · exact .inl rfl
          · split
            · exact .inl rfl
            · split
              · exact .inl rfl
              · rename_i h
                split
                · exact .inl rfl
                · exact .inr ((okP_iff _).1 (Classical.byContradiction h))
  · exact .inl rfl
theorem decP_le (l : List Int) : (decP l).1.data.length ≤ 400 := by
  rcases decP_ok l with h | h
  · rw [h]; simp [pt0]
  · have := h.short; omega
end Go.Proofs.YtdenddhdeloceaaDoor
/- Contract: the law's example is as the page says. -/
namespace Go.Proofs.YtdenddhdeloceaaDoor
open Go.RowKit
set_option maxRecDepth 100000
theorem imp_al (a b : Int) : Imp (.agg [.v (.int .i64 a), .v (.int .i64 b), .v (.int .i64 0), .v (.int .i64 0), .v (.slice none 0 0)]) (aPt true ⟨a, b, 0, 0, []⟩) :=
  Imp.aggL ⟨Imp.refl _, Imp.refl _, Imp.refl _, Imp.refl _, Imp.nil true, trivial⟩
set_option maxHeartbeats 2000000 in
theorem alive_spec (nb : Nat) : ASound Tryd.prog 4 [] nb (.ret (.v (.bool true)) []) := by
  refine ok_4.sound (by simp) trivial ?_
  have hn := new_spec 16
  have s1 := store_spec true true (zerosD 16) al1
  rw [alD1_store] at s1
  have s2 := store_spec true true alD1 al2
  rw [alD2_store] at s2
  have hl := load_spec true alD2
  rw [alD2_load] at hl
  have k1 : alD1.sectors.length ≤ 140737488355328 := by have := alD1_clean.ok.few; omega
  have k2 : alD2.sectors.length ≤ 140737488355328 := by have := alD2_clean.ok.few; omega
  have k0 : (zerosD 16).sectors.length ≤ 140737488355328 := by simp [zerosD]
  have oc := alD2_oct
  generalize alD2 = D2 at *
  generalize alD1 = D1 at *
  generalize zerosD 16 = D0 at *
  simp only [ac_4, TT, ↓reduceIte, Nat.reduceEqDiff, Nat.reduceAdd, Nat.reduceMul, reduceCtorEq, Nat.reduceLeDiff]
  refine ⟨_, hn _ (by decide) (by decide), ?_⟩
  simp only [TT, ↓reduceIte, Nat.reduceEqDiff, Nat.reduceAdd, Nat.reduceMul, reduceCtorEq, Nat.reduceLeDiff]
  refine ⟨_, (s1 _ k0).args (args' := [aDk true D0, .agg [.v (.int .i64 1), .v (.int .i64 0), .v (.int .i64 0), .v (.int .i64 0), .v (.slice none 0 0)]]) ⟨Imp.refl _, imp_al 1 0, trivial⟩, ?_⟩
  simp only [TT, ↓reduceIte, Nat.reduceEqDiff, Nat.reduceAdd, Nat.reduceMul, reduceCtorEq, Nat.reduceLeDiff]
  refine ⟨_, (s2 _ k1).args (args' := [aDk true D1, .agg [.v (.int .i64 2), .v (.int .i64 7), .v (.int .i64 0), .v (.int .i64 0), .v (.slice none 0 0)]]) ⟨Imp.refl _, imp_al 2 7, trivial⟩, ?_⟩
  simp only [TT, ↓reduceIte, Nat.reduceEqDiff, Nat.reduceAdd, Nat.reduceMul, reduceCtorEq, Nat.reduceLeDiff]
  refine ⟨_, hl _ oc k2, ?_⟩
  simp only [al2, TT, ↓reduceIte, Nat.reduceEqDiff, Nat.reduceAdd, Nat.reduceMul, reduceCtorEq, Nat.reduceLeDiff]
  refine ⟨_, num_spec 0 _, ?_⟩
  simp only [TT, ↓reduceIte, Nat.reduceEqDiff, Nat.reduceAdd, Nat.reduceMul, reduceCtorEq, Nat.reduceLeDiff]
  refine ⟨_, num_spec 0 _, ?_⟩
  simp only [TT, ↓reduceIte, Nat.reduceEqDiff, Nat.reduceAdd, Nat.reduceMul, reduceCtorEq, Nat.reduceLeDiff]
  refine ⟨_, num_spec 0 _, ?_⟩
  simp only [TT, ↓reduceIte, Nat.reduceEqDiff, Nat.reduceAdd, Nat.reduceMul, reduceCtorEq, Nat.reduceLeDiff]
  refine ⟨_, num_spec 0 _, ?_⟩
  simp only [TT, ↓reduceIte, Nat.reduceEqDiff, Nat.reduceAdd, Nat.reduceMul, reduceCtorEq, Nat.reduceLeDiff]
  exact Ends.data (.inr rfl) (by simp [ET]; try decide) trivial
end Go.Proofs.YtdenddhdeloceaaDoor
/- Functions of the program, compiled. -/
namespace Go.Proofs.YtdenddhdeloceaaDoor
set_option maxRecDepth 100000
def ac_3 : AC :=
(.seq (.reg false [⟨some 3, .box 24 (.tmp 0), none, [0], []⟩,
    ⟨some 6, .mv (.const (.bool false)), none, [], []⟩] [1, 2, 3])
(.seq (.seq (.reg false [⟨some 13, .call 4 [], none, [], []⟩,
    ⟨some 14, .un .not (.tmp 13), none, [13], []⟩] [1, 2, 3, 14])
(.cond (.tmp 14)
(.seq (.reg false [⟨some 6, .mv (.const (.bool false)), none, [], []⟩] [6])
.ret)
.skip))
(.seq (.reg false [⟨some 16, .load true 5 (.tmp 3), none, [3], []⟩,
    ⟨some 17, .call 6 [(.tmp 16)], none, [16], []⟩,
    ⟨some 18, .call 5 [(.tmp 17)], none, [17], []⟩,
    ⟨some 15, .mv (.tmp 18), none, [18], []⟩,
    ⟨some 19, .ext 0 (.tmp 15), none, [15], []⟩,
    ⟨some 20, .ext 1 (.tmp 15), none, [15], []⟩,
    ⟨some 7, .mv (.tmp 19), none, [19], []⟩,
    ⟨some 8, .mv (.tmp 20), none, [20], []⟩] [1, 2, 3, 7, 8])
(.seq (.seq (.reg false [⟨some 21, .mv (.tmp 8), none, [8], []⟩,
    ⟨some 22, .call 7 [(.tmp 21)], none, [21], []⟩,
    ⟨some 23, .bin .neq (.tmp 22) (.const (.int .i64 (0))), none, [22], []⟩] [1, 2, 3, 7, 23])
(.cond (.tmp 23)
(.seq (.reg false [⟨some 24, .mv (.tmp 7), none, [7], []⟩,
    ⟨some 25, .len false (.tmp 24), none, [24], []⟩,
    ⟨some 26, .bin .eql (.tmp 25) (.const (.int .i64 (0))), none, [25], []⟩,
    ⟨some 6, .mv (.tmp 26), none, [26], []⟩] [6])
.ret)
.skip))
(.seq (.reg false [⟨some 28, .mv (.tmp 7), none, [7], []⟩,
    ⟨some 29, .call 8 [(.tmp 28)], none, [28], []⟩,
    ⟨some 27, .mv (.tmp 29), none, [29], []⟩,
    ⟨some 30, .ext 0 (.tmp 27), none, [27], []⟩,
    ⟨some 31, .ext 1 (.tmp 27), none, [27], []⟩,
    ⟨some 9, .new 29 [(.int .i64 (0)), (.int .i64 (0)), (.int .i64 (0)), (.int .i64 (0)), (.slice none 0 0)], none, [], []⟩,
    ⟨none, .store 5 (.tmp 9) (.tmp 30), none, [9, 30], []⟩,
    ⟨some 10, .mv (.tmp 31), none, [31], []⟩] [1, 2, 3, 7, 9, 10])
(.seq (.seq (.reg false [⟨some 32, .mv (.tmp 10), none, [10], []⟩,
    ⟨some 33, .call 7 [(.tmp 32)], none, [32], []⟩,
    ⟨some 34, .bin .neq (.tmp 33) (.const (.int .i64 (0))), none, [33], []⟩,
    ⟨some 35, .mv (.tmp 34), none, [34], []⟩,
    ⟨some 36, .load true 5 (.tmp 9), some (35, false), [9, 35], []⟩,
    ⟨some 37, .load true 5 (.tmp 3), some (35, false), [3, 35], []⟩,
    ⟨some 38, .call 9 [(.tmp 36), (.tmp 37)], some (35, false), [36, 37, 35], []⟩,
    ⟨some 39, .un .not (.tmp 38), some (35, false), [38, 35], []⟩,
    ⟨some 40, .pick (.tmp 35) (.const (.bool true)) (.tmp 39), none, [35, 39], []⟩,
    ⟨some 41, .mv (.tmp 40), none, [40], []⟩,
    ⟨some 42, .mv (.tmp 2), some (41, false), [2, 41], []⟩,
    ⟨some 43, .bin .eql (.tmp 42) (.const (.int .u8 (0))), some (41, false), [42, 41], []⟩,
    ⟨some 44, .pick (.tmp 41) (.const (.bool true)) (.tmp 43), none, [41, 43], []⟩] [1, 2, 3, 7, 9, 10, 44])
(.cond (.tmp 44)
(.seq (.reg false [⟨some 45, .mv (.tmp 10), none, [10], []⟩,
    ⟨some 46, .call 7 [(.tmp 45)], none, [45], []⟩,
    ⟨some 47, .bin .eql (.tmp 46) (.const (.int .i64 (0))), none, [46], []⟩,
    ⟨some 48, .mv (.tmp 47), none, [47], []⟩,
    ⟨some 49, .load true 5 (.tmp 9), some (48, true), [9, 48], []⟩,
    ⟨some 50, .load true 5 (.tmp 3), some (48, true), [3, 48], []⟩,
    ⟨some 51, .call 9 [(.tmp 49), (.tmp 50)], some (48, true), [49, 50, 48], []⟩,
    ⟨some 52, .pick (.tmp 48) (.tmp 51) (.const (.bool false)), none, [48, 51], []⟩,
    ⟨some 6, .mv (.tmp 52), none, [52], []⟩] [6])
.ret)
.skip))
(.seq (.reg false [⟨some 53, .mv (.tmp 7), none, [7], []⟩,
    ⟨some 54, .mv (.tmp 1), none, [1], []⟩,
    ⟨some 55, .bin .rem (.tmp 54) (.const (.int .i64 (510))), none, [54], []⟩,
    ⟨some 56, .bin .add (.tmp 55) (.const (.int .i64 (510))), none, [55], []⟩,
    ⟨some 57, .bin .rem (.tmp 56) (.const (.int .i64 (510))), none, [56], []⟩,
    ⟨some 58, .bin .add (.const (.int .i64 (2))) (.tmp 57), none, [57], []⟩,
    ⟨some 59, .idx 1 (.tmp 53) (.tmp 58), none, [53, 58], []⟩,
    ⟨some 60, .load false 1 (.tmp 59), none, [59], []⟩,
    ⟨some 61, .mv (.tmp 2), none, [2], []⟩,
    ⟨some 62, .bin .xor (.tmp 60) (.tmp 61), none, [60, 61], []⟩,
    ⟨some 63, .idx 1 (.tmp 53) (.tmp 58), none, [53, 58], []⟩,
    ⟨none, .store 1 (.tmp 63) (.tmp 62), none, [63, 62], []⟩] [7])
(.seq (.reg false [⟨some 65, .mv (.tmp 7), none, [7], []⟩,
    ⟨some 66, .call 8 [(.tmp 65)], none, [65], []⟩,
    ⟨some 64, .mv (.tmp 66), none, [66], []⟩,
    ⟨some 67, .ext 0 (.tmp 64), none, [64], []⟩,
    ⟨some 68, .ext 1 (.tmp 64), none, [64], []⟩,
    ⟨some 11, .new 29 [(.int .i64 (0)), (.int .i64 (0)), (.int .i64 (0)), (.int .i64 (0)), (.slice none 0 0)], none, [], []⟩,
    ⟨none, .store 5 (.tmp 11) (.tmp 67), none, [11, 67], []⟩,
    ⟨some 12, .mv (.tmp 68), none, [68], []⟩] [11, 12])
(.seq (.reg false [⟨some 69, .mv (.tmp 12), none, [12], []⟩,
    ⟨some 70, .call 7 [(.tmp 69)], none, [69], []⟩,
    ⟨some 71, .bin .neq (.tmp 70) (.const (.int .i64 (0))), none, [70], []⟩,
    ⟨some 72, .mv (.tmp 71), none, [71], []⟩,
    ⟨some 73, .foff 0 (.tmp 11), some (72, true), [11, 72], []⟩,
    ⟨some 74, .load false 1 (.tmp 73), some (72, true), [73, 72], []⟩,
    ⟨some 75, .bin .eql (.tmp 74) (.const (.int .i64 (0))), some (72, true), [74, 72], []⟩,
    ⟨some 76, .pick (.tmp 72) (.tmp 75) (.const (.bool false)), none, [72, 75], []⟩,
    ⟨some 77, .mv (.tmp 76), none, [76], []⟩,
    ⟨some 78, .foff 4 (.tmp 11), some (77, true), [11, 77], []⟩,
    ⟨some 79, .load false 1 (.tmp 78), some (77, true), [78, 77], []⟩,
    ⟨some 80, .len false (.tmp 79), some (77, true), [79, 77], []⟩,
    ⟨some 81, .bin .eql (.tmp 80) (.const (.int .i64 (0))), some (77, true), [80, 77], []⟩,
    ⟨some 82, .pick (.tmp 77) (.tmp 81) (.const (.bool false)), none, [77, 81], []⟩,
    ⟨some 6, .mv (.tmp 82), none, [82], []⟩] [6])
.ret)))))))))
theorem ok_3 : FnOk Tryd.prog 3 83 ac_3 [.tmp 6] := ⟨Tryd.f3, Tryd.func3, by kernel_rfl, by kernel_rfl, by kernel_rfl, by kernel_rfl, by kernel_rfl⟩
end Go.Proofs.YtdenddhdeloceaaDoor
/- Contract: PointTells answers true. -/
namespace Go.Proofs.YtdenddhdeloceaaDoor
open Go.RowKit
set_option maxRecDepth 100000
end Go.Proofs.YtdenddhdeloceaaDoor
/- Contract: PointDisks answers true. -/
namespace Go.Proofs.YtdenddhdeloceaaDoor
open Go.RowKit
set_option maxRecDepth 100000
/-- a disk as a row's argument: not too large -/
structure fitD (d : Dk) : Prop where
  many : d.sectors.length ≤ 5864062014805
  long : ∀ t ∈ d.sectors, t.length ≤ 140737488355328
  cache : d.cache.length ≤ 4398046511104
  data : ∀ w ∈ d.cache, w.data.length ≤ 140737488355328
theorem fit_clean {d : Dk} (h : okD d) : fitD d := by
  have := h.few
  exact ⟨by omega, okD_secs h, by omega, okD_data h⟩
theorem fit_dk0 : fitD dk0 := ⟨by simp [dk0], by simp [dk0], by simp [dk0], by simp [dk0]⟩
theorem okD_flush {d : Dk} (h : okD d) : okD (flushD d) := by
  have hf := h.few
  rw [flushD_eq]
  refine ⟨?_, fun t ht => ?_, fun w hw => by cases hw⟩
  · simp only [landT_len, List.length_nil]; omega
  · refine landL_p (p := fun t => t.length = 64) _ _ h.secs (fun q hq => ?_) t ht
    obtain ⟨w, hw, rfl⟩ := List.mem_map.1 hq
    have := h.cache w hw
    unfold badW at this
    exact Classical.byContradiction fun h2 => this (.inr (.inr h2))
theorem storeD_fit (d : Dk) (p : Pt) : fitD (storeD d p).1 := by
  unfold storeD
  split
  · exact fit_dk0
  · rename_i hA
    have hA : askE d = 0 := Classical.byContradiction hA
    obtain ⟨hok, h16⟩ := askE_iff.1 hA
    split
    · exact fit_dk0
    · rename_i hE
      have hE : ptE p = 0 := Classical.byContradiction hE
      have hp := (okP_iff p).1 hE
      split
      · rename_i hov
        refine fit_clean (okD_flush (okD_put hok (encP_len hp) ?_ hov))
        unfold slotP; omega
      · exact fit_dk0
theorem loadD_le (d : Dk) : (loadD d).1.data.length ≤ 400 := by
  unfold loadD
  split
  · simp [pt0]
  · unfold pickP
    split
    · simp [pt0]
    · split
      · exact decP_le _
      · exact decP_le _
end Go.Proofs.YtdenddhdeloceaaDoor
/- The rows of this seat: their arguments' types; what their listed variables hold; a world that holds it. -/
namespace Go.Proofs.YtdenddhdeloceaaDoor
open Go.RowKit
set_option maxRecDepth 100000
def okBytes (l : List Int) : Prop := l.length * 1 ≤ reachB ∧ ∀ x ∈ l, (Lit.int .u8 x).wf = true
def wf64 (x : Int) : Prop := (Lit.int .i64 x).wf = true
theorem okBytes_B {l : List Int} (h : okBytes l) : okB l := fun x hx => by
  have := h.2 x hx
  simp [Lit.wf, IntKind.min, IntKind.max, IntKind.bits, IntKind.signed] at this
  omega
theorem okBytes_le {l : List Int} (h : okBytes l) : l.length ≤ 140737488351232 := by have := h.1; unfold reachB at this; omega
theorem eB_flat (l : List Int) : eB l = l.flatMap fun x => [.v (.int .u8 x)] := by simp [eB, List.map_eq_flatMap]
theorem eL_flat (fr : Bool) (l : List (List Int)) : eL fr l = l.flatMap fun x => [fB fr x] := by simp [eL, List.map_eq_flatMap, fB]
theorem rdt_bytes : Rd Tryd.prog 22 (fun fr l => [fB fr l]) okBytes :=
  (rd_slice (B := 1) Tryd.underlying22 (by kernel_rfl) (by kernel_rfl) (by rw [show Tryd.prog.cellsOf 5 = 1 from by kernel_rfl]; decide) (rd_int Tryd.underlying5 (by kernel_rfl))).map id id (fun fr b => by simp [fB, eB_flat]) (fun fr b => by simp [fB, eB_flat]) fun a h => h
theorem rdt_num : Rd Tryd.prog 3 (fun _ x => [.v (.int .i64 x)]) wf64 := rd_int Tryd.underlying3 (by kernel_rfl)
structure okPt (p : Pt) : Prop where
  e : wf64 p.epoch
  s : wf64 p.seq
  v : wf64 p.view
  c : wf64 p.commit
  d : okBytes p.data
theorem rdt_pt : Rd Tryd.prog 24 (fun fr (p : Pt) => [.v (.int .i64 p.epoch), .v (.int .i64 p.seq), .v (.int .i64 p.view), .v (.int .i64 p.commit), fB fr p.data]) okPt :=
  (rd_struct Tryd.underlying24 (by kernel_rfl) (RdF.cons (c := 1) rfl (by kernel_rfl) rdt_num (RdF.cons (c := 1) rfl (by kernel_rfl) rdt_num (RdF.cons (c := 1) rfl (by kernel_rfl) rdt_num (RdF.cons (c := 1) rfl (by kernel_rfl) rdt_num (RdF.cons (c := 1) rfl (by kernel_rfl) rdt_bytes RdF.nil)))))).map
    (fun x => ⟨x.1, x.2.1, x.2.2.1, x.2.2.2.1, x.2.2.2.2.1⟩) (fun b => (b.epoch, b.seq, b.view, b.commit, b.data, ())) (fun fr b => rfl) (fun fr b => rfl) fun a h => ⟨h.1, h.2.1, h.2.2.1, h.2.2.2.1, h.2.2.2.2.1⟩
theorem rdt_lists : Rd Tryd.prog 36 (fun fr l => [fL fr l]) (fun l => l.length * 24 ≤ reachB ∧ ∀ x ∈ l, okBytes x) :=
  (rd_slice (B := 24) Tryd.underlying36 (by kernel_rfl) (by kernel_rfl) (by rw [show Tryd.prog.cellsOf 22 = 1 from by kernel_rfl]; decide) rdt_bytes).map id id (fun fr b => by simp [fL, eL_flat]) (fun fr b => by simp [fL, eL_flat]) fun a h => h
structure okDk (d : Dk) : Prop where
  s : d.sectors.length * 24 ≤ reachB ∧ ∀ x ∈ d.sectors, okBytes x
  c : d.cache.length * 32 ≤ reachB ∧ ∀ x ∈ d.cache, wf64 x.sec ∧ okBytes x.data
theorem okDk_fit {d : Dk} (h : okDk d) : fitD d := by
  have h1 := h.s.1
  have h2 := h.c.1
  unfold reachB at h1 h2
  exact ⟨by omega, fun t ht => by have := okBytes_le (h.s.2 t ht); omega, by omega, fun w hw => by have := okBytes_le (h.c.2 w hw).2; omega⟩
theorem okDk_oct {d : Dk} (h : okDk d) : octD d := ⟨fun t ht => okBytes_B (h.s.2 t ht), fun w hw => okBytes_B (h.c.2 w hw).2⟩
theorem laid : laidOutB Tryd.prog = true := by kernel_rfl
theorem open_pt {H : Type} {enc : TypeId × Value → H} {W : World} {base : Nat} {v : Value} {d : DataW H} {ps : List MemPlace} (hv : Value.okWide Tryd.prog W .any base 24 v) (h : DataW.Trod enc Tryd.prog W 0 (fun _ => true) true 24 v d ps)
    (hw : (d.weights Tryd.prog 24).all (· ≤ reachBytes) = true) : ∃ s, okPt s ∧ VR (cx0 W) (aPt false s) v := by
  simp only [Value.okWide, Tryd.underlying24] at hv
  obtain ⟨cs, rfl, _, _⟩ := hv
  obtain ⟨fuel, h⟩ := h
  obtain ⟨s, h1, h2⟩ := rdt_pt.rd h hw
  refine ⟨s, h1, ?_⟩
  rw [aPt, VR]
  exact ⟨_, rfl, h2⟩
theorem open_bytes {H : Type} {enc : TypeId × Value → H} {W : World} {base : Nat} {v : Value} {d : DataW H} {ps : List MemPlace} (hv : Value.okWide Tryd.prog W .any base 22 v) (h : DataW.Trod enc Tryd.prog W 0 (fun _ => true) true 22 v d ps)
    (hw : (d.weights Tryd.prog 22).all (· ≤ reachBytes) = true) : ∃ s, okBytes s ∧ VR (cx0 W) (fB false s) v := by
  have hc : v.cells.toList = [v] := by
    cases v <;> first | rfl | (exfalso; simp [Value.okWide, Cell.okWide, Cell.ok, Tryd.underlying22] at hv)
  obtain ⟨fuel, h⟩ := h
  obtain ⟨s, h1, h2⟩ := rdt_bytes.rd h hw
  refine ⟨s, h1, ?_⟩
  rw [hc, VRl] at h2
  obtain ⟨u, us, e, _, h3, _⟩ := h2
  cases e
  exact h3
/-! what the listed variables hold -/
def lst : List (String × DataW Unit) := [("unicode/utf8.acceptRanges", Rows.laid_unicode_utf8_acceptRanges), ("errors.errorType", Rows.laid_errors_errorType), ("unicode/utf8.first", Rows.laid_unicode_utf8_first)]
theorem own : ownKnob Tryd.prog.godebug = none := by kernel_rfl
theorem et : Tryd.prog.globalNamed "errors.errorType" = some 0 := by kernel_rfl
theorem rtT : (Tryd.prog.cutTypes.find? (·.1 == "internal/reflectlite.rtype")).map (·.2) = some 144 := by kernel_rfl
theorem tsize : Tryd.prog.types.size = 190 := by kernel_rfl
theorem oneRow : ((List.range 190).filter fun t => Tryd.prog.rowNamed t [101, 114, 114, 111, 114]) = [66] := by kernel_rfl
theorem glob_of_laid {W : World} (h : laidMetH Tryd.prog lst W) : ∀ b v, GLOB b = some v → W.cell? ⟨b, 0, none⟩ = some v := by
  intro b v hb
  have h' : laidMet Tryd.prog (lst.filter fun x => x.2.handleName?.isNone) W ∧ handlesMet Tryd.prog (lst.filter fun x => x.2.handleName?.isSome) W := h
  obtain ⟨name, u, ty, e1, e2, e3, e4, e5⟩ := h'.2 ("errors.errorType", Rows.laid_errors_errorType) (by simp [lst]; decide)
  have en : name = [101, 114, 114, 111, 114] := (Option.some.inj e1).symm
  subst en
  obtain rfl := Option.some.inj (rtT.symm.trans e2)
  have hm : ty ∈ (List.range 190).filter fun t => Tryd.prog.rowNamed t [101, 114, 114, 111, 114] := List.mem_filter.2 ⟨List.mem_range.2 (by rw [← tsize]; exact e3), e4⟩
  rw [oneRow] at hm
  obtain rfl := List.mem_singleton.1 hm
  have hh : typeHandle Tryd.prog 66 = .pointer (some ⟨3, 66, none⟩) := by kernel_rfl
  rw [hh] at e5
  have hc : W.cell? ⟨0, 0, none⟩ = some (.iface 144 (.agg #[.pointer (some ⟨3, 66, none⟩)])) := by simpa using World.var?_cell et e5 0
  unfold GLOB at hb
  split at hb
  · rename_i e; subst e; cases hb; exact hc
  · cases hb
/-- a world that holds it -/
noncomputable def laidW0 (os : Os) : World :=
  let w0 := World.holding Tryd.prog os ⟨#[], #[], []⟩
  { w0 with heap := w0.heap.modify 0 fun
      | .cells _ t frozen => .cells #[.iface 144 (.agg #[.pointer (some ⟨3, 66, none⟩)])] t frozen
      | o => o }
def lstD : List (String × DataW Unit) := [("unicode/utf8.acceptRanges", Rows.laid_unicode_utf8_acceptRanges), ("unicode/utf8.first", Rows.laid_unicode_utf8_first)]
noncomputable def laidWorld (os : Os) : World := (laidW0 os).layVars Tryd.prog lstD
theorem laidWorld_os (os : Os) : (laidWorld os).os = os := World.layVars_os _ _ _
theorem laidWorld_met (os : Os) (args : Array Value) : laidMetH Tryd.prog lst ((laidWorld os).forCall (fun _ _ => 0) ⟨#[], args, []⟩).memory := by
  refine laidMetH_of_parts ?_ (by kernel_rfl)
  have e : (lst.filter fun x => x.2.handleName?.isNone) = lstD := by rfl
  rw [e]
  have e1 : (lstD.filter fun x => ["unicode/utf8.acceptRanges", "unicode/utf8.first"].contains x.1) = lstD := by rfl
  have e2 : (lstD.filter fun x => !["unicode/utf8.acceptRanges", "unicode/utf8.first"].contains x.1) = [] := by rfl
  have h : laidMet Tryd.prog lstD (laidWorld os) := laidMet_layVars (w0 := laidW0 os) ["unicode/utf8.acceptRanges", "unicode/utf8.first"] [] (by rw [e1]; rfl) (by rw [e1]; kernel_rfl) (by rw [e1]; kernel_rfl) (by rw [e2]; exact LaidIn.none)
  exact h.of_heap (by simp [World.memory, World.forCall, Input.heap])
theorem laidWorld_shaped (os : Os) (args : Array Value) : ((laidWorld os).forCall (fun _ _ => 0) ⟨#[], args, []⟩).Shaped Tryd.prog := World.shaped_of_ZipB (by kernel_rfl) (by kernel_rfl)
end Go.Proofs.YtdenddhdeloceaaDoor
/- Contracts: points and octets in rows that the caller holds. -/
namespace Go.Proofs.YtdenddhdeloceaaDoor
open Go.RowKit
set_option maxRecDepth 100000
theorem copyBytes_os (fr : Bool) (l : List Int) (nb : Nat) (h : l.length ≤ 140737488355328) : ASound Tryd.prog 17 [fB fr l] nb (.ret (.os nb 0 l.length 1) [(nb, some (.row true 5 (eB l)))]) := by
  refine ok_17.sound (by simp) ⟨al_fB l, trivial⟩ ?_
  simp only [ac_17, len_B, h, TT, ↓reduceIte, Nat.reduceEqDiff, Nat.reduceAdd, Nat.reduceMul, reduceCtorEq, Nat.reduceLeDiff]
  exact Ends.rows1 (i := 400000) (r0 := .os 400000 0 l.length 1) (.inr rfl) (by simp [ET]) rfl (al_B l) (by simp [Al]) (by simp [ren, rn])
theorem of_os (fr : Bool) (p : Pt) (nb : Nat) (h : p.data.length ≤ 140737488355328) : ASound Tryd.prog 6 [aPt fr p] nb
    (.ret (.agg [.v (.int .i64 p.epoch), .v (.int .i64 p.seq), .v (.int .i64 p.view), .v (.int .i64 p.commit), .os nb 0 p.data.length 1]) [(nb, some (.row true 5 (eB p.data)))]) := by
  refine ok_6.sound (by simp) ⟨al_aPt p, trivial⟩ ?_
  have hc := copyBytes_os fr p.data
  simp only [fB] at hc
  simp only [ac_6, TT, ↓reduceIte, Nat.reduceEqDiff, Nat.reduceAdd, Nat.reduceMul, reduceCtorEq, Nat.reduceLeDiff]
  refine ⟨_, hc _ h, ?_⟩
  simp only [TT, ↓reduceIte, Nat.reduceEqDiff, Nat.reduceAdd, Nat.reduceMul, reduceCtorEq, Nat.reduceLeDiff]
  refine ⟨by rfl, ?_⟩
  exact Ends.rows1 (i := 1200000) (r0 := .agg [.v (.int .i64 p.epoch), .v (.int .i64 p.seq), .v (.int .i64 p.view), .v (.int .i64 p.commit), .os 1200000 0 p.data.length 1]) (.inr rfl) (by simp [ET]) (by simp [WT]) (al_B _) (by simp [Al, AlL]) (by simp [ren, renL, rn])
/-- point.Encode: the region is the caller's -/
theorem pencode_os (fr : Bool) (p : Pt) (nb : Nat) (h : okP p) : ASound Tryd.prog 5 [aPt fr p] nb (.ret (.tup [.os nb 0 512 1, .v (.int .i64 0)]) [(nb, some (.row true 5 (eB (encP p).1)))]) := by
  refine ok_5.sound (by simp) ⟨al_aPt p, trivial⟩ ?_
  have hc := pcheck_spec fr p
  have hn := nums_spec fr p
  have hE : ptE p = 0 := (okP_iff p).2 h
  simp only [aPt, fB] at hc hn
  simp only [ac_5, TT, ↓reduceIte, Nat.reduceEqDiff, Nat.reduceAdd, Nat.reduceMul, reduceCtorEq, Nat.reduceLeDiff]
  refine ⟨_, hc _, ?_⟩
  simp only [TT, ↓reduceIte, Nat.reduceEqDiff, Nat.reduceAdd, Nat.reduceMul, reduceCtorEq, Nat.reduceLeDiff]
  have hs := sealP_le h
  have hb := bodyP_le h
  have he : encP p = (pad 512 (bodyP p), 0) := by rw [encP, if_pos hE]
  rw [he]
  simp only [hE, TT, ↓reduceIte, Nat.reduceEqDiff, Nat.reduceAdd, Nat.reduceMul, reduceCtorEq, Nat.reduceLeDiff]
  refine ⟨_, hn _, ?_⟩
  simp only [TT, ↓reduceIte, Nat.reduceEqDiff, Nat.reduceAdd, Nat.reduceMul, reduceCtorEq, Nat.reduceLeDiff]
  refine ⟨_, encodeP_b fr p h _ _, ?_⟩
  simp only [TT, ↓reduceIte, Nat.reduceEqDiff, Nat.reduceAdd, Nat.reduceMul, reduceCtorEq, Nat.reduceLeDiff]
  refine ⟨by rfl, ?_⟩
  refine ⟨_, joinP_b (sealB (encR (recP p))) (by omega) _ _, ?_⟩
  simp only [TT, ↓reduceIte, Nat.reduceEqDiff, Nat.reduceAdd, Nat.reduceMul, reduceCtorEq, Nat.reduceLeDiff]
  have hl : (joinT (sealB (encR (recP p)))).length ≤ 459 := hb
  have t5 : Int.toNat 512 = 512 := rfl
  have hm : (joinT (sealB (encR (recP p)))).length.min 512 = (joinT (sealB (encR (recP p)))).length := Nat.min_eq_left (by omega)
  simp only [t5, rep_B, len_B, List.length_replicate, hm, tk_B]
  rw [if_pos (by decide), if_pos True.intro, if_pos (by decide), setN_B (by rw [List.length_replicate]; omega), pad_rep]
  exact Ends.rows1 (i := 2800000) (r0 := .tup [.os 2800000 0 512 1, .v (.int .i64 0)]) (.inr rfl) (by simp [ET]) (by simp [WT, bodyP]; try rfl) (al_B _) (by simp [Al, AlL]) (by simp [ren, renL, rn])
/-- the same of a point whose octets the caller holds -/
theorem pencode_b (p : Pt) (id nb : Nat) (h : okP p) (h0 : p.data ≠ []) : ASound Tryd.prog 5 [.agg [.v (.int .i64 p.epoch), .v (.int .i64 p.seq), .v (.int .i64 p.view), .v (.int .i64 p.commit), .os id 0 p.data.length 1]] nb
    (rowsM [(id, true, 5, eB p.data)] (.ret (.tup [.os nb 0 512 1, .v (.int .i64 0)]) [(nb, some (.row true 5 (eB (encP p).1)))])) := by
  refine ASound.borrow [(true, 5, eB (encP p).1)] [(id, true, 5, eB p.data)] ?_ (fun x hx => ?_) (by simp) ⟨⟨Nat.le_refl _, by simp⟩, trivial, trivial⟩ (fun x hx => ?_)
  · have e : boL [(id, true, 5, eB p.data)] [.agg [.v (.int .i64 p.epoch), .v (.int .i64 p.seq), .v (.int .i64 p.view), .v (.int .i64 p.commit), .os id 0 p.data.length 1]] = [aPt false p] := by
      simp [boL, bo, cellsAt, od, od_B, tk_B, aPt, fB]
    rw [e]
    exact pencode_os false p nb h
  · simp at hx; subst hx; simpa [eB] using h0
  · simp at hx; subst hx; exact yg_B _
/-- and refused -/
theorem pencode_bno (p : Pt) (id nb : Nat) (h : ¬ okP p) (h0 : p.data ≠ []) : ASound Tryd.prog 5 [.agg [.v (.int .i64 p.epoch), .v (.int .i64 p.seq), .v (.int .i64 p.view), .v (.int .i64 p.commit), .os id 0 p.data.length 1]] nb
    (rowsM [(id, true, 5, eB p.data)] (.ret (.tup [fB true [], .v (.int .i64 (ptE p))]) [])) := by
  refine ASound.borrow [] [(id, true, 5, eB p.data)] ?_ (fun x hx => ?_) (by simp) ⟨yg_fB _, trivial, trivial⟩ (fun x hx => by cases hx)
  · have e : boL [(id, true, 5, eB p.data)] [.agg [.v (.int .i64 p.epoch), .v (.int .i64 p.seq), .v (.int .i64 p.view), .v (.int .i64 p.commit), .os id 0 p.data.length 1]] = [aPt false p] := by
      simp [boL, bo, cellsAt, od, od_B, tk_B, aPt, fB]
    have hk := pencode_spec false p nb
    rw [encP, if_neg (fun h9 => h ((okP_iff p).1 h9))] at hk
    rw [e]
    exact hk
  · simp at hx; subst hx; simpa [eB] using h0
/-- point.Decode of octets that the caller holds -/
theorem pdecode_b (l : List Int) (id nb : Nat) (hb : okB l) (hB : l.length ≤ 140737488355320) (h0 : l ≠ []) : ASound Tryd.prog 8 [.os id 0 l.length 1] nb
    (rowsM [(id, true, 5, eB l)] (.ret (.tup [aPt true (decP l).1, .v (.int .i64 (decP l).2)]) [])) :=
  ASound.borrowB (pdecode_spec false l nb hb hB) h0 ⟨⟨trivial, trivial, trivial, trivial, yg_fB _, trivial⟩, trivial, trivial⟩
/-- an octet spoilt -/
def sp (x : Int) : Int := IntKind.u8.wrap ((BitVec.ofInt IntKind.u8.bits x ^^^ BitVec.ofInt IntKind.u8.bits 85).toNat : Int)
def spL (l : List Int) (i : Nat) : List Int := (l.take i).map sp ++ l.drop i
theorem spL_len (l : List Int) (i : Nat) : (spL l i).length = l.length := by simp [spL]; omega
theorem spL_get {l : List Int} {i : Nat} {x : Int} (h : l[i]? = some x) : (spL l i)[i]? = some x := by
  have hi := (List.getElem?_eq_some_iff.1 h).1
  have hl : ((l.take i).map sp).length = i := by simp; omega
  rw [spL, List.getElem?_append_right (by omega), hl, Nat.sub_self, List.getElem?_drop]
  exact h
theorem spL_set {l : List Int} {i : Nat} {x : Int} (h : l[i]? = some x) : (spL l i).set i (sp x) = spL l (i + 1) := by
  have hi := List.getElem?_eq_some_iff.1 h
  have hi1 := hi.1
  have hl : ((l.take i).map sp).length = i := by simp; omega
  unfold spL
  rw [List.set_append, if_neg (by omega), hl, Nat.sub_self, List.drop_eq_getElem_cons hi.1, hi.2, take_snoc h, List.map_append, List.append_assoc]
  rfl
abbrev L_sp (l : List Int) (i : Nat) : ASt := ⟨envOf [(0, .os 0 0 l.length 1), (2, .v (.int .i64 i))], heapOf [(0, .row true 5 (eB (spL l i)))], 1⟩
end Go.Proofs.YtdenddhdeloceaaDoor
/- Plain: an octet of a point's region that is another one is found. -/
namespace Go.Proofs.YtdenddhdeloceaaDoor
open Go.RowKit
set_option maxRecDepth 100000
theorem cbit4_inj {a b : BitVec 32} (h : cbit4 a = cbit4 b) : a = b := cbit_inj (cbit_inj (cbit_inj (cbit_inj h)))
theorem cbyte_injc {a b : BitVec 32} {x : Int} (h : cbyte a x = cbyte b x) : a = b := by
  have h1 := cbit4_inj (cbit4_inj h)
  have h2 := congrArg (fun c => c ^^^ BitVec.ofInt 32 x) h1
  simpa [BitVec.xor_assoc] using h2
theorem cbyte_injx {a : BitVec 32} {x y : Int} (hx : 0 ≤ x ∧ x < 256) (hy : 0 ≤ y ∧ y < 256) (h : cbyte a x = cbyte a y) : x = y := by
  have h1 := cbit4_inj (cbit4_inj h)
  have h2 := congrArg (fun c => a ^^^ c) h1
  simp only [← BitVec.xor_assoc, BitVec.xor_self, BitVec.zero_xor] at h2
  have h3 := congrArg BitVec.toNat h2
  rw [BitVec.toNat_ofInt, BitVec.toNat_ofInt] at h3
  omega
theorem cgo_inj : ∀ (l : List Int) {a b : BitVec 32}, cgo a l = cgo b l → a = b
  | [], _, _, h => h
  | x :: l, a, b, h => cbyte_injc (cgo_inj l (a := cbyte a x) (b := cbyte b x) h)
theorem crc_set {l : List Int} {i : Nat} {x y : Int} (hl : l[i]? = some x) (hx : 0 ≤ x ∧ x < 256) (hy : 0 ≤ y ∧ y < 256) (hne : y ≠ x) : crc (l.set i y) ≠ crc l := by
  intro h
  have hi := List.getElem?_eq_some_iff.1 hl
  have el : l = l.take i ++ x :: l.drop (i + 1) := by rw [← hi.2, ← List.drop_eq_getElem_cons hi.1, List.take_append_drop]
  have es : l.set i y = l.take i ++ y :: l.drop (i + 1) := by rw [List.set_eq_take_append_cons_drop, if_pos hi.1]
  have h1 : cgo (~~~ 0#32) (l.set i y) = cgo (~~~ 0#32) l := by
    have h2 := congrArg (fun c => ~~~ c) h
    simpa [crc] using h2
  rw [es] at h1
  conv at h1 => rhs; rw [el]
  unfold cgo at h1
  rw [List.foldl_append, List.foldl_append, List.foldl_cons, List.foldl_cons] at h1
  exact hne (cbyte_injx hy hx (cgo_inj (l.drop (i + 1)) h1))
theorem low4_inj {c d : BitVec 32} (h : low4 c = low4 d) : c = d := by
  unfold low4 at h
  injection h with h0 h
  injection h with h1 h
  injection h with h2 h
  injection h with h3 _
  simp only [BitVec.toNat_ushiftRight, Nat.shiftRight_eq_div_pow] at h1 h2 h3
  apply BitVec.eq_of_toNat_eq
  have := c.isLt; have := d.isLt
  omega
theorem set_ne {l : List Int} {i : Nat} {x y : Int} (hl : l[i]? = some x) (hne : y ≠ x) : l.set i y ≠ l := by
  intro h
  have h1 : (l.set i y)[i]? = some y := by rw [List.getElem?_set_self (List.getElem?_eq_some_iff.1 hl).1]
  rw [h, hl] at h1
  exact hne (Option.some.inj h1).symm
/-- a sealed text with one octet that is another one is not opened -/
theorem open_set {m : List Int} {i : Nat} {x y : Int} (hm : okB m) (hl : (sealB m)[i]? = some x) (hy : 0 ≤ y ∧ y < 256) (hne : y ≠ x) : openB ((sealB m).set i y) = ([], 21) := by
  unfold sealB at hl ⊢
  by_cases h : i < m.length
  · rw [List.getElem?_append_left h] at hl
    rw [List.set_append, if_pos h, openB_app (low4_len _), if_neg]
    intro h9
    exact crc_set hl (hm x (List.mem_of_getElem? hl)) hy hne (low4_inj h9).symm
  · rw [List.getElem?_append_right (by omega)] at hl
    rw [List.set_append, if_neg h, openB_app (by rw [List.length_set]; exact low4_len _), if_neg]
    exact set_ne hl hne
theorem okB_rec {p : Pt} (h : okP p) (hp : okB p.data) : okB (encR (recP p)) := okB_enc (okR_P h) (fun t ht => by simp [recP] at ht; subst ht; exact hp)
/-- a point with one octet that is another one, of its region behind the length -/
theorem decP_set {p : Pt} {i : Nat} {x y : Int} (h : okP p) (hp : okB p.data) (hi : 2 ≤ i) (hl : (encP p).1[i]? = some x) (hy : 0 ≤ y ∧ y < 256) (hne : y ≠ x) : (decP ((encP p).1.set i y)).1 = pt0 ∧ (decP ((encP p).1.set i y)).2 ≠ 0 := by
  obtain ⟨t, e1, e2, e3, e4⟩ := encP_eq h
  rw [e1] at hl ⊢
  obtain ⟨j, rfl⟩ := Nat.exists_eq_add_of_le hi
  rw [show 2 + j = j + 1 + 1 from by omega] at hl ⊢
  rw [List.getElem?_cons_succ, List.getElem?_cons_succ] at hl
  rw [List.set_cons_succ, List.set_cons_succ]
  have ha : (256 * (((sealP p).length / 256 : Nat) : Int) + (((sealP p).length % 256 : Nat) : Int)).toNat = (sealP p).length := by omega
  rw [decP, if_neg (by rw [List.length_set]; omega), ha]
  unfold decP2
  rw [if_neg (by omega)]
  by_cases hj : j < (sealP p).length
  · rw [List.getElem?_append_left hj] at hl
    rw [List.set_append, if_pos hj]
    have ht : ((sealP p).set j y ++ t).take (sealP p).length = (sealP p).set j y := by rw [List.take_left' (by rw [List.length_set])]
    rw [ht]
    have hd : dec ((sealP p).set j y) = (rec0, 21) := by
      unfold dec
      have ho := open_set (m := encR (recP p)) (okB_rec h hp) hl hy hne
      unfold sealP
      rw [ho]; rfl
    rw [hd]
    exact ⟨rfl, show (21 : Int) ≠ 0 by decide⟩
  · rw [List.getElem?_append_right (by omega)] at hl
    have hx0 := e3 x (List.mem_of_getElem? hl)
    rw [List.set_append, if_neg hj, List.take_left, List.drop_left]
    have hd : dec (sealP p) = (recP p, 0) := dec_enc (okR_P h) (nums64 h)
    rw [hd]
    simp only [ne_eq, not_true_eq_false, if_false]
    rw [if_neg (show ¬ ((recP p).kind = 7 → False) from fun h => h rfl)]
    have ho : ofRec (recP p) = some p := rfl
    rw [ho]
    simp only
    rw [if_neg (fun h9 => h9 ((okP_iff p).2 h)), if_pos]
    · exact ⟨rfl, by decide⟩
    · exact ⟨y, List.mem_set (List.getElem?_eq_some_iff.1 hl).1 y, by omega⟩
end Go.Proofs.YtdenddhdeloceaaDoor
/- Contract: PointBack answers true. -/
namespace Go.Proofs.YtdenddhdeloceaaDoor
open Go.RowKit
set_option maxRecDepth 100000
/-- the octet's place -/
theorem place (n : Int) : ∃ i : Nat, IntKind.i64.wrap (2 + (IntKind.i64.wrap (n.tmod 510 + 510)).tmod 510) = (i : Int) ∧ 2 ≤ i ∧ i < 512 := by
  have h1 : -510 < n.tmod 510 := by have := Int.lt_tmod_of_pos n (show (0 : Int) < 510 by decide); omega
  have h2 : n.tmod 510 < 510 := Int.tmod_lt_of_pos n (by decide)
  rw [wrap64 (x := n.tmod 510 + 510) (by omega)]
  obtain ⟨m, hm⟩ := Int.eq_ofNat_of_zero_le (show 0 ≤ n.tmod 510 + 510 by omega)
  rw [hm]
  have e : (m : Int).tmod 510 = ((m % 510 : Nat) : Int) := rfl
  have h3 : m % 510 < 510 := Nat.mod_lt _ (by decide)
  rw [e, wrap64 (by omega)]
  exact ⟨2 + m % 510, by omega, by omega, by omega⟩
/-- the octet changed -/
def xr (x y : Int) : Int := IntKind.u8.wrap ((BitVec.ofInt IntKind.u8.bits x ^^^ BitVec.ofInt IntKind.u8.bits y).toNat : Int)
theorem xr_ok {x y : Int} (hx : 0 ≤ x ∧ x < 256) (hy : 0 ≤ y ∧ y < 256) : (0 ≤ xr x y ∧ xr x y < 256) ∧ (y ≠ 0 → xr x y ≠ x) := by
  obtain ⟨a, rfl⟩ := Int.eq_ofNat_of_zero_le hx.1
  obtain ⟨b, rfl⟩ := Int.eq_ofNat_of_zero_le hy.1
  have ha : a < 2 ^ 8 := by omega
  have hb : b < 2 ^ 8 := by omega
  have hlt : a ^^^ b < 2 ^ 8 := Nat.xor_lt_two_pow ha hb
  have e : xr (a : Int) (b : Int) = ((a ^^^ b : Nat) : Int) := by
    unfold xr
    have h1 : (BitVec.ofInt IntKind.u8.bits (a : Int) ^^^ BitVec.ofInt IntKind.u8.bits (b : Int)).toNat = a ^^^ b := by
      show (BitVec.ofInt 8 (a : Int) ^^^ BitVec.ofInt 8 (b : Int)).toNat = _
      rw [BitVec.toNat_xor, BitVec.toNat_ofInt, BitVec.toNat_ofInt, show ((a : Int) % ((2 ^ 8 : Nat) : Int)).toNat = a from by omega, show ((b : Int) % ((2 ^ 8 : Nat) : Int)).toNat = b from by omega]
    rw [h1]
    rw [u8_wrap]; omega
  rw [e]
  refine ⟨by omega, fun h0 h => h0 ?_⟩
  have h2 : a ^^^ b = a := by omega
  have h3 : a ^^^ (a ^^^ b) = 0 := by rw [h2, Nat.xor_self]
  rw [← Nat.xor_assoc, Nat.xor_self, Nat.zero_xor] at h3
  omega
set_option maxHeartbeats 8000000 in
theorem pointBack_spec (fp : Bool) (p : Pt) (n bits : Int) (nb : Nat) (hp : p.data.length ≤ 140737488355320) (ho : okB p.data) (hb : 0 ≤ bits ∧ bits < 256) :
    ASound Tryd.prog 3 [aPt fp p, .v (.int .i64 n), .v (.int .u8 bits)] nb (.ret (.v (.bool true)) []) := by
  refine ok_3.sound (by simp) ⟨al_aPt p, trivial, trivial, trivial⟩ ?_
  have c0 := of_spec fp p
  have c1 := of_os fp p
  have c2 := pencode_spec true p
  have c4 := pencode_os true p
  have c3 := fun id nb => pencode_b p id nb
  have c3n := fun id nb => pencode_bno p id nb
  have c11 := sameP_spec true fp p p
  have t11 : decide (sameP p p) = true := decide_eq_true (sameP_iff.2 rfl)
  rw [t11] at c11
  simp only [aPt, fB] at c0 c1 c2 c3 c3n c4 c11
  by_cases hk : okP p
  · have hd := decP_encP hk
    have l5 := encP_len hk
    have oE : okB (encP p).1 := okB_encP ho
    have hE : (encP p).1 ≠ [] := fun h => by rw [h] at l5; simp at l5
    have c5 := fun id nb => pdecode_b (encP p).1 id nb oE (by omega) hE
    rw [hd] at c5
    simp only [l5, aPt, fB] at c5
    obtain ⟨i, e1, e2, e3⟩ := place n
    obtain ⟨x, hx⟩ : ∃ x, (encP p).1[i]? = some x := ⟨_, List.getElem?_eq_getElem (by omega)⟩
    have hx8 := oE x (List.mem_of_getElem? hx)
    obtain ⟨hr1, hr2⟩ := xr_ok hx8 hb
    have hst : (eB (encP p).1).set i (.v (.int .u8 (IntKind.u8.wrap ((BitVec.ofInt IntKind.u8.bits x ^^^ BitVec.ofInt IntKind.u8.bits bits).toNat : Int)))) = eB ((encP p).1.set i (xr x bits)) := by rw [← set_B]; rfl
    have hgx := get_B hx
    have l6 : ((encP p).1.set i (xr x bits)).length = 512 := by rw [List.length_set]; exact l5
    have o6 : okB ((encP p).1.set i (xr x bits)) := fun y hy => (List.mem_or_eq_of_mem_set hy).elim (oE y) (fun e => e ▸ hr1)
    have h6 : (encP p).1.set i (xr x bits) ≠ [] := fun h => by rw [h] at l6; simp at l6
    have c8 := fun id nb => pdecode_b _ id nb o6 (by omega) h6
    have hs := fun hb0 : bits ≠ 0 => decP_set hk ho e2 hx hr1 (hr2 hb0)
    simp only [l6, aPt, fB] at c8
    generalize decP ((encP p).1.set i (xr x bits)) = D at *
    obtain ⟨D, f⟩ := D
    simp only at hs c8
    have n510 : ((510 : Int) = 0) = False := eq_false (by decide)
    have u1 : (0 : Int) ≤ (i : Int) := by omega
    have u2 : (i : Int) < ((512 : Nat) : Int) := by omega
    by_cases h0 : p.data = []
    · simp only [h0] at c0 c4 c11 c5
      simp only [ac_3, aPt, fB, h0, TT, ↓reduceIte, Nat.reduceEqDiff, Nat.reduceAdd, Nat.reduceMul, reduceCtorEq, Nat.reduceLeDiff]
      refine ⟨_, alive_spec _, ?_⟩
      simp only [Bool.not_true, TT, ↓reduceIte, Nat.reduceEqDiff, Nat.reduceAdd, Nat.reduceMul, reduceCtorEq, Nat.reduceLeDiff]
      refine ⟨_, c0 _ (by simp), ?_⟩
      simp only [TT, ↓reduceIte, Nat.reduceEqDiff, Nat.reduceAdd, Nat.reduceMul, reduceCtorEq, Nat.reduceLeDiff]
      refine ⟨_, c4 _ hk, ?_⟩
      simp only [TT, ↓reduceIte, Nat.reduceEqDiff, Nat.reduceAdd, Nat.reduceMul, reduceCtorEq, Nat.reduceLeDiff]
      refine ⟨_, num_spec 0 _, ?_⟩
      simp only [decide_true, Bool.not_true, TT, ↓reduceIte, Nat.reduceEqDiff, Nat.reduceAdd, Nat.reduceMul, reduceCtorEq, Nat.reduceLeDiff]
      refine ⟨_, c5 _ _, ?_⟩
      simp only [TT, ↓reduceIte, Nat.reduceEqDiff, Nat.reduceAdd, Nat.reduceMul, reduceCtorEq, Nat.reduceLeDiff]
      refine ⟨_, num_spec 0 _, ?_⟩
      simp only [decide_true, Bool.not_true, TT, ↓reduceIte, Nat.reduceEqDiff, Nat.reduceAdd, Nat.reduceMul, reduceCtorEq, Nat.reduceLeDiff]
      refine ⟨_, c11 _ (by simp), ?_⟩
      by_cases hb0 : bits = 0
      · simp only [hb0, decide_true, Bool.not_true, TT, ↓reduceIte, Nat.reduceEqDiff, Nat.reduceAdd, Nat.reduceMul, reduceCtorEq, Nat.reduceLeDiff]
        refine ⟨_, num_spec 0 _, ?_⟩
        simp only [decide_true, Bool.not_true, TT, ↓reduceIte, Nat.reduceEqDiff, Nat.reduceAdd, Nat.reduceMul, reduceCtorEq, Nat.reduceLeDiff]
        refine ⟨_, c11 _ (by simp), ?_⟩
        simp only [decide_true, Bool.not_true, TT, ↓reduceIte, Nat.reduceEqDiff, Nat.reduceAdd, Nat.reduceMul, reduceCtorEq, Nat.reduceLeDiff]
        exact Ends.data (.inr rfl) (by simp [ET]) trivial
      · have t0 : decide (bits = 0) = false := decide_eq_false hb0
        obtain ⟨hs1, hs2⟩ := hs hb0
        subst hs1
        have t2 : decide (f = 0) = false := decide_eq_false hs2
        simp only [hb0, t0, decide_true, Bool.not_true, TT, ↓reduceIte, Nat.reduceEqDiff, Nat.reduceAdd, Nat.reduceMul, reduceCtorEq, Nat.reduceLeDiff]
        simp only [n510, decide_false, e1, u1, u2, Int.toNat_natCast, Nat.zero_add, hgx, hst, and_self, if_true, TT, ↓reduceIte, Nat.reduceEqDiff, Nat.reduceAdd, Nat.reduceMul, reduceCtorEq, Nat.reduceLeDiff]
        rw [if_pos (by rw [len_B]; omega)]
        refine ⟨_, c8 _ _, ?_⟩
        simp only [TT, ↓reduceIte, Nat.reduceEqDiff, Nat.reduceAdd, Nat.reduceMul, reduceCtorEq, Nat.reduceLeDiff]
        refine ⟨_, num_spec _ _, ?_⟩
        simp only [hs2, t2, pt0, Bool.not_false, decide_true, TT, ↓reduceIte, Nat.reduceEqDiff, Nat.reduceAdd, Nat.reduceMul, reduceCtorEq, Nat.reduceLeDiff]
        exact Ends.data (.inr rfl) (by simp [ET]) trivial
    · simp only [ac_3, aPt, fB, TT, ↓reduceIte, Nat.reduceEqDiff, Nat.reduceAdd, Nat.reduceMul, reduceCtorEq, Nat.reduceLeDiff]
      refine ⟨_, alive_spec _, ?_⟩
      simp only [Bool.not_true, TT, ↓reduceIte, Nat.reduceEqDiff, Nat.reduceAdd, Nat.reduceMul, reduceCtorEq, Nat.reduceLeDiff]
      refine ⟨_, c1 _ (by omega), ?_⟩
      simp only [TT, ↓reduceIte, Nat.reduceEqDiff, Nat.reduceAdd, Nat.reduceMul, reduceCtorEq, Nat.reduceLeDiff]
      refine ⟨_, c3 _ _ hk h0, ?_⟩
      simp only [TT, ↓reduceIte, Nat.reduceEqDiff, Nat.reduceAdd, Nat.reduceMul, reduceCtorEq, Nat.reduceLeDiff]
      refine ⟨_, num_spec 0 _, ?_⟩
      simp only [decide_true, Bool.not_true, TT, ↓reduceIte, Nat.reduceEqDiff, Nat.reduceAdd, Nat.reduceMul, reduceCtorEq, Nat.reduceLeDiff]
      refine ⟨_, c5 _ _, ?_⟩
      simp only [TT, ↓reduceIte, Nat.reduceEqDiff, Nat.reduceAdd, Nat.reduceMul, reduceCtorEq, Nat.reduceLeDiff]
      refine ⟨_, num_spec 0 _, ?_⟩
      simp only [decide_true, Bool.not_true, TT, ↓reduceIte, Nat.reduceEqDiff, Nat.reduceAdd, Nat.reduceMul, reduceCtorEq, Nat.reduceLeDiff]
      refine ⟨_, c11 _ (by omega), ?_⟩
      by_cases hb0 : bits = 0
      · simp only [hb0, decide_true, Bool.not_true, TT, ↓reduceIte, Nat.reduceEqDiff, Nat.reduceAdd, Nat.reduceMul, reduceCtorEq, Nat.reduceLeDiff]
        refine ⟨_, num_spec 0 _, ?_⟩
        simp only [decide_true, Bool.not_true, TT, ↓reduceIte, Nat.reduceEqDiff, Nat.reduceAdd, Nat.reduceMul, reduceCtorEq, Nat.reduceLeDiff]
        refine ⟨_, c11 _ (by omega), ?_⟩
        simp only [decide_true, Bool.not_true, TT, ↓reduceIte, Nat.reduceEqDiff, Nat.reduceAdd, Nat.reduceMul, reduceCtorEq, Nat.reduceLeDiff]
        exact Ends.data (.inr rfl) (by simp [ET]) trivial
      · have t0 : decide (bits = 0) = false := decide_eq_false hb0
        obtain ⟨hs1, hs2⟩ := hs hb0
        subst hs1
        have t2 : decide (f = 0) = false := decide_eq_false hs2
        simp only [hb0, t0, decide_true, Bool.not_true, TT, ↓reduceIte, Nat.reduceEqDiff, Nat.reduceAdd, Nat.reduceMul, reduceCtorEq, Nat.reduceLeDiff]
        simp only [n510, decide_false, e1, u1, u2, Int.toNat_natCast, Nat.zero_add, hgx, hst, and_self, if_true, TT, ↓reduceIte, Nat.reduceEqDiff, Nat.reduceAdd, Nat.reduceMul, reduceCtorEq, Nat.reduceLeDiff]
        rw [if_pos (by rw [len_B]; omega)]
        refine ⟨_, c8 _ _, ?_⟩
        simp only [TT, ↓reduceIte, Nat.reduceEqDiff, Nat.reduceAdd, Nat.reduceMul, reduceCtorEq, Nat.reduceLeDiff]
        refine ⟨_, num_spec _ _, ?_⟩
        simp only [hs2, t2, pt0, Bool.not_false, decide_true, TT, ↓reduceIte, Nat.reduceEqDiff, Nat.reduceAdd, Nat.reduceMul, reduceCtorEq, Nat.reduceLeDiff]
        exact Ends.data (.inr rfl) (by simp [ET]) trivial
  · have hk0 : ptE p ≠ 0 := fun h => hk ((okP_iff p).1 h)
    have t0 : decide (ptE p = 0) = false := decide_eq_false hk0
    have he : encP p = ([], ptE p) := by rw [encP, if_neg hk0]
    rw [he] at c2
    simp only at c2
    by_cases h0 : p.data = []
    · simp only [h0] at c0 c2
      simp only [ac_3, aPt, fB, h0, TT, ↓reduceIte, Nat.reduceEqDiff, Nat.reduceAdd, Nat.reduceMul, reduceCtorEq, Nat.reduceLeDiff]
      refine ⟨_, alive_spec _, ?_⟩
      simp only [Bool.not_true, TT, ↓reduceIte, Nat.reduceEqDiff, Nat.reduceAdd, Nat.reduceMul, reduceCtorEq, Nat.reduceLeDiff]
      refine ⟨_, c0 _ (by simp), ?_⟩
      simp only [TT, ↓reduceIte, Nat.reduceEqDiff, Nat.reduceAdd, Nat.reduceMul, reduceCtorEq, Nat.reduceLeDiff]
      refine ⟨_, c2 _, ?_⟩
      simp only [TT, ↓reduceIte, Nat.reduceEqDiff, Nat.reduceAdd, Nat.reduceMul, reduceCtorEq, Nat.reduceLeDiff]
      refine ⟨_, num_spec _ _, ?_⟩
      simp only [hk0, t0, decide_true, Bool.not_false, TT, ↓reduceIte, Nat.reduceEqDiff, Nat.reduceAdd, Nat.reduceMul, reduceCtorEq, Nat.reduceLeDiff]
      exact Ends.data (.inr rfl) (by simp [ET]) trivial
    · simp only [ac_3, aPt, fB, TT, ↓reduceIte, Nat.reduceEqDiff, Nat.reduceAdd, Nat.reduceMul, reduceCtorEq, Nat.reduceLeDiff]
      refine ⟨_, alive_spec _, ?_⟩
      simp only [Bool.not_true, TT, ↓reduceIte, Nat.reduceEqDiff, Nat.reduceAdd, Nat.reduceMul, reduceCtorEq, Nat.reduceLeDiff]
      refine ⟨_, c1 _ (by omega), ?_⟩
      simp only [TT, ↓reduceIte, Nat.reduceEqDiff, Nat.reduceAdd, Nat.reduceMul, reduceCtorEq, Nat.reduceLeDiff]
      refine ⟨_, c3n _ _ hk h0, ?_⟩
      simp only [TT, ↓reduceIte, Nat.reduceEqDiff, Nat.reduceAdd, Nat.reduceMul, reduceCtorEq, Nat.reduceLeDiff]
      refine ⟨_, num_spec _ _, ?_⟩
      simp only [hk0, t0, decide_true, Bool.not_false, TT, ↓reduceIte, Nat.reduceEqDiff, Nat.reduceAdd, Nat.reduceMul, reduceCtorEq, Nat.reduceLeDiff]
      exact Ends.data (.inr rfl) (by simp [ET]) trivial
end Go.Proofs.YtdenddhdeloceaaDoor
