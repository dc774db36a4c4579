/- PointOldOrNew, for every three points and every script of a crash: the old one is loaded, or the new one if all of it was kept; what is handed in stays. -/
import Derived.Test.YtdenddhdeloceaaGreatDoorRows
import Derived.Test.YtdenddhdeloceaaGreatDoorTie
import Derived.Test.YtdenddhdeloceaaGreatDoorCards
import Derived.Test.YtdenddhdeloceaaGreatDoorX5
import Derived.Test.YtdenddhdeloceaaGreatDoorX6
import Derived.WalkKit
import Derived.ProofKit
import Derived.OpenShut
import Derived.ShutString
import Derived.ChangeOld
import Derived.Below
import Derived.SizedLaws
import Derived.Carry
import Derived.LaidMore
import Derived.Lay
import Derived.SevenTiedAt
import Derived.Stop.Joined
namespace Go.Proofs.YtdenddhdeloceaaGreatDoor.pointOldOrNew
open Go.ChangeShapes Go.WideShapes Go.ChangeAt Go.RowKit
set_option linter.unusedVariables false
set_option maxRecDepth 100000 in
theorem lifted (os : Os) (started : os.Started) (H : Type) (enc : TypeId × Value → H) :
    ReturnsInHanded {} Tryz.checked os 7 .any (fun w args => (Rows.pointOldOrNewSpec.pre enc Tryz.prog Tryz.f7 [] false w args ∧ laidMetH Tryz.prog Rows.pointOldOrNewRow.laid w) ∧ sizedMet enc Tryz.prog Tryz.f7 (OpenSpec.ofChange Rows.pointOldOrNewSpec) false w args)
      (Rows.pointOldOrNewSpec.post enc Tryz.prog Tryz.f7 false true false false) := by
  refine returnsInHanded_of_change_and (C := Tryz.checked) (X := fun w _ => laidMetH Tryz.prog lst w) (fun _ _ _ hh h => h.of_heap hh) own started (by kernel_rfl) Tryz.func7
    (ChangeSpec.witness_shaped (enc := enc) (C := Tryz.checked) (os := os) (X := fun w _ => laidMetH Tryz.prog lst w) false (laidWorld os) #[.agg #[.int .i64 0, .int .i64 0, .int .i64 0, .int .i64 0, .slice none 0 0], .agg #[.int .i64 0, .int .i64 0, .int .i64 0, .int .i64 0, .slice none 0 0], .agg #[.int .i64 0, .int .i64 0, .int .i64 0, .int .i64 0, .slice none 0 0], .slice none 0 0] 8 (laidWorld_os _) (laidWorld_shaped os _) (by kernel_rfl) (by kernel_rfl) (by kernel_rfl) (laidWorld_met os _)) ?_
  intro W base args ds gs before hval0 hW hcnd hsz0 hL _
  have hsz : (DataW.weightsEach Tryz.prog (Tryz.f7.params.toList ++ Rows.pointOldOrNewSpec.plain.varTypes Tryz.prog) (ds ++ gs)).all (· ≤ reachBytes) = true := hsz0
  have hval : ∀ (j : Nat) t v, Tryz.f7.params[j]? = some t → args[j]? = some v → Value.okWide Tryz.prog W .any base t v := hval0
  have hW' := hW
  obtain ⟨p, q, hA0, hV, rfl, hfz, hnd⟩ := hW
  have hA : DataW.TrodAll enc Tryz.prog W 0 (fun _ => true) true Tryz.f7.params.toList args.toList ds p := hA0
  rw [Tryz.params7] at hA hval hsz
  obtain ⟨v0, vs0, d0, ds0, p0, q0, hargs, rfl, rfl, h0, r0⟩ := trodAll_cons hA
  obtain ⟨v1, vs1, d1, ds1, p1, q1, rfl, rfl, rfl, h1, r1⟩ := trodAll_cons r0
  obtain ⟨v2, vs2, d2, ds2, p2, q2, rfl, rfl, rfl, h2, r2⟩ := trodAll_cons r1
  obtain ⟨v3, vs3, d3, ds3, p3, q3, rfl, rfl, rfl, h3, r3⟩ := trodAll_cons r2
  obtain ⟨rfl, rfl, rfl⟩ := trodAll_nil r3
  obtain rfl : args = #[v0, v1, v2, v3] := by cases args; simp_all
  obtain ⟨rfl, rfl⟩ := trodVars_none hV
  have hw0 : (d0.weights Tryz.prog 24).all (· ≤ reachBytes) = true := by
    rw [List.all_eq_true] at hsz ⊢
    exact fun x hx => hsz x (show x ∈ d0.weights Tryz.prog 24 ++ _ from List.mem_append_left _ hx)
  have hw1 : (d1.weights Tryz.prog 24).all (· ≤ reachBytes) = true := by
    rw [List.all_eq_true] at hsz ⊢
    exact fun x hx => hsz x (show x ∈ d0.weights Tryz.prog 24 ++ (d1.weights Tryz.prog 24 ++ _) from List.mem_append_right _ (List.mem_append_left _ hx))
  have hw2 : (d2.weights Tryz.prog 24).all (· ≤ reachBytes) = true := by
    rw [List.all_eq_true] at hsz ⊢
    exact fun x hx => hsz x (show x ∈ d0.weights Tryz.prog 24 ++ (d1.weights Tryz.prog 24 ++ (d2.weights Tryz.prog 24 ++ _)) from List.mem_append_right _ (List.mem_append_right _ (List.mem_append_left _ hx)))
  have hw3 : (d3.weights Tryz.prog 65).all (· ≤ reachBytes) = true := by
    rw [List.all_eq_true] at hsz ⊢
    exact fun x hx => hsz x (show x ∈ d0.weights Tryz.prog 24 ++ (d1.weights Tryz.prog 24 ++ (d2.weights Tryz.prog 24 ++ (d3.weights Tryz.prog 65 ++ _))) from List.mem_append_right _ (List.mem_append_right _ (List.mem_append_right _ (List.mem_append_left _ hx))))
  obtain ⟨s0, hok0, hs0⟩ := open_pt (hval 0 24 v0 rfl rfl) h0 hw0
  obtain ⟨s1, hok1, hs1⟩ := open_pt (hval 1 24 v1 rfl rfl) h1 hw1
  obtain ⟨s2, hok2, hs2⟩ := open_pt (hval 2 24 v2 rfl rfl) h2 hw2
  obtain ⟨s3, hok3, hs3⟩ := open_bools (hval 3 65 v3 rfl rfl) h3 hw3
  clear hA0 hval0 hsz0 hsz
  have hlt0 : ∀ x ∈ p0, x.block < W.heap.size := fun x hx => by simpa using hW'.lt x (by simp [hx])
  have hlt1 : ∀ x ∈ p1, x.block < W.heap.size := fun x hx => by simpa using hW'.lt x (by simp [hx])
  have hlt2 : ∀ x ∈ p2, x.block < W.heap.size := fun x hx => by simpa using hW'.lt x (by simp [hx])
  have hlt3 : ∀ x ∈ p3, x.block < W.heap.size := fun x hx => by simpa using hW'.lt x (by simp [hx])
  refine (ASound.row (fun nb => pointOldOrNew_spec false false false false s0 s1 s2 s3 nb (by have := okBytes_le hok0.d; omega) (by have := okBytes_le hok1.d; omega) (by have := okBytes_le hok2.d; omega) (okBytes_B hok0.d) (okBytes_B hok1.d) (okBytes_B hok2.d) (by have := okBools_le hok3; omega)) (us := [v0, v1, v2, v3]) (glob_of_laid hL) ⟨_, _, rfl, hs0, _, _, rfl, hs1, _, _, rfl, hs2, _, _, rfl, hs3, rfl⟩).mono fun e W' ⟨he, bel⟩ => ?_
  subst he
  exact ⟨_, rfl, _, _, _, [], _, [], hW', trodAll_mk1 (shut_bool Tryz.underlying4 _), (trodAll_cons_mk (Below.trod laid (by kernel_rfl) (of_decide_eq_true (by kernel_rfl)) h0 bel hlt0) (trodAll_cons_mk (Below.trod laid (by kernel_rfl) (of_decide_eq_true (by kernel_rfl)) h1 bel hlt1) (trodAll_cons_mk (Below.trod laid (by kernel_rfl) (of_decide_eq_true (by kernel_rfl)) h2 bel hlt2) (trodAll_cons_mk (Below.trod laid (by kernel_rfl) (of_decide_eq_true (by kernel_rfl)) h3 bel hlt3) trodAll_mk0)))), rfl, bel.frame _, fun h => by cases h⟩
theorem over : Rows.pointOldOrNewRow.holds Tryz.pinned (OpenSpec.ofChange Rows.pointOldOrNewSpec) :=
  OpenClaim.holds_of_wide 7 Tryz.f7 rfl rfl rfl rfl rfl rfl rfl ⟨rfl, rfl, rfl, rfl, rfl⟩ rfl rfl rfl rfl rfl (by kernel_rfl) Tryz.func7 (by kernel_rfl)
    (of_decide_eq_true (by kernel_rfl)) (by unfold Func.isWrapper; first | (rw [if_pos (by decide +kernel)]; kernel_rfl) | (rw [if_neg (by decide +kernel)]; exact ⟨rfl, rfl⟩))
    (fun os started H enc _ => lifted os started H enc)
theorem proved : Rows.PointOldOrNewCardSaid :=
  Claim7.holds_tied_plain_at .later [] [.data, .handle, .pinned] true (true, "aa74f24332c74db69e73ce1555986e631bb891cb65d7a93f2a358045c9259968") true
    over (fun _ h => by cases h) (by kernel_rfl) (fun _ h => by cases h) pointOldOrNew_row_tie rfl ⟨rfl, rfl⟩ (by kernel_rfl) rfl
    (fun f fn hf hfn => by
      obtain rfl : f = 7 := Option.some.inj ((show Tryz.prog.funcNamed "undercroft/undercroftlaw17.PointOldOrNew" = some 7 by kernel_rfl).symm.trans hf) |>.symm
      obtain rfl : fn = Tryz.f7 := (Option.some.inj (Tryz.func7.symm.trans hfn)).symm
      exact ⟨by kernel_rfl, fun j t ht => by
        rw [Tryz.params7] at ht
        have hm : t ∈ [24, 24, 24, 65] := by simpa using Array.mem_of_getElem? ht
        have hall : ([24, 24, 24, 65].all fun u => !Tryz.prog.wantsStandIn u) = true := by kernel_rfl
        exact (show Tryz.prog.wantsStandIn t = false by simpa using List.all_eq_true.1 hall t hm)⟩)
    (by kernel_rfl)
#print axioms proved
end Go.Proofs.YtdenddhdeloceaaGreatDoor.pointOldOrNew
namespace Go.Proofs.YtdenddhdeloceaaGreatDoor
/-- The card, under a short name, for the claim. -/
theorem pointOldOrNew_holds : Rows.PointOldOrNewCardSaid := pointOldOrNew.proved
end Go.Proofs.YtdenddhdeloceaaGreatDoor
