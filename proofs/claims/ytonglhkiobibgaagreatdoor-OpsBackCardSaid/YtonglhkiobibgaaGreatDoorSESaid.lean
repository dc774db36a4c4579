/- OpsBack, for every input: ops and replies are read back from their octets; what is read is built again of what was read. -/
import Derived.Test.YtonglhkiobibgaaGreatDoorRows
import Derived.Test.YtonglhkiobibgaaGreatDoorTie
import Derived.Test.YtonglhkiobibgaaGreatDoorCards
import Derived.Test.YtonglhkiobibgaaGreatDoorX3
import Derived.Test.YtonglhkiobibgaaGreatDoorX4
import Derived.WalkKit
import Derived.ProofKit
import Derived.OpenShut
import Derived.ShutString
import Derived.ChangeOld
import Derived.Below
import Derived.SizedLaws
import Derived.Carry
import Derived.LaidMore
import Derived.Lay
import Derived.SevenTiedAt
import Derived.Stop.Joined
namespace Go.Proofs.YtonglhkiobibgaaGreatDoor.opsBack
open Go.ChangeShapes Go.WideShapes Go.ChangeAt Go.RowKit
set_option linter.unusedVariables false
set_option maxRecDepth 100000 in
theorem lifted (os : Os) (started : os.Started) (H : Type) (enc : TypeId × Value → H) :
    ReturnsInHanded {} Tryz.checked os 12 .any (fun w args => (Rows.opsBackSpec.pre enc Tryz.prog Tryz.f12 [] false w args ∧ laidMetH Tryz.prog Rows.opsBackRow.laid w) ∧ sizedMet enc Tryz.prog Tryz.f12 (OpenSpec.ofChange Rows.opsBackSpec) false w args)
      (Rows.opsBackSpec.post enc Tryz.prog Tryz.f12 false true false false) := by
  refine returnsInHanded_of_change_and (C := Tryz.checked) (X := fun w _ => laidMetH Tryz.prog lst w) (fun _ _ _ hh h => h.of_heap hh) own started (by kernel_rfl) Tryz.func12
    (ChangeSpec.witness_shaped (enc := enc) (C := Tryz.checked) (os := os) (X := fun w _ => laidMetH Tryz.prog lst w) false (laidWorld os) #[.agg #[.int .i64 0, .string (ByteArray.mk #[]), .string (ByteArray.mk #[]), .int .i64 0, .int .i64 0, .slice none 0 0], .agg #[.int .i64 0, .int .i64 0, .slice none 0 0, .slice none 0 0], .slice none 0 0] 8 (laidWorld_os _) (laidWorld_shaped os _) (by kernel_rfl) (by kernel_rfl) (by kernel_rfl) (laidWorld_met os _)) ?_
  intro W base args ds gs before hval0 hW hcnd hsz0 hL _
  have hsz : (DataW.weightsEach Tryz.prog (Tryz.f12.params.toList ++ Rows.opsBackSpec.plain.varTypes Tryz.prog) (ds ++ gs)).all (· ≤ reachBytes) = true := hsz0
  have hval : ∀ (j : Nat) t v, Tryz.f12.params[j]? = some t → args[j]? = some v → Value.okWide Tryz.prog W .any base t v := hval0
  have hW' := hW
  obtain ⟨p, q, hA0, hV, rfl, hfz, hnd⟩ := hW
  have hA : DataW.TrodAll enc Tryz.prog W 0 (fun _ => true) true Tryz.f12.params.toList args.toList ds p := hA0
  rw [Tryz.params12] at hA hval hsz
  obtain ⟨v0, vs0, d0, ds0, p0, q0, hargs, rfl, rfl, h0, r0⟩ := trodAll_cons hA
  obtain ⟨v1, vs1, d1, ds1, p1, q1, rfl, rfl, rfl, h1, r1⟩ := trodAll_cons r0
  obtain ⟨v2, vs2, d2, ds2, p2, q2, rfl, rfl, rfl, h2, r2⟩ := trodAll_cons r1
  obtain ⟨rfl, rfl, rfl⟩ := trodAll_nil r2
  obtain rfl : args = #[v0, v1, v2] := by cases args; simp_all
  obtain ⟨rfl, rfl⟩ := trodVars_none hV
  have hw0 : (d0.weights Tryz.prog 55).all (· ≤ reachBytes) = true := by
    rw [List.all_eq_true] at hsz ⊢
    exact fun x hx => hsz x (show x ∈ d0.weights Tryz.prog 55 ++ _ from List.mem_append_left _ hx)
  have hw1 : (d1.weights Tryz.prog 57).all (· ≤ reachBytes) = true := by
    rw [List.all_eq_true] at hsz ⊢
    exact fun x hx => hsz x (show x ∈ d0.weights Tryz.prog 55 ++ (d1.weights Tryz.prog 57 ++ _) from List.mem_append_right _ (List.mem_append_left _ hx))
  have hw2 : (d2.weights Tryz.prog 37).all (· ≤ reachBytes) = true := by
    rw [List.all_eq_true] at hsz ⊢
    exact fun x hx => hsz x (show x ∈ d0.weights Tryz.prog 55 ++ (d1.weights Tryz.prog 57 ++ (d2.weights Tryz.prog 37 ++ _)) from List.mem_append_right _ (List.mem_append_right _ (List.mem_append_left _ hx)))
  obtain ⟨s0, hok0, hs0⟩ := open_op (hval 0 55 v0 rfl rfl) h0 hw0
  obtain ⟨s1, hok1, hs1⟩ := open_rep (hval 1 57 v1 rfl rfl) h1 hw1
  obtain ⟨s2, hok2, hs2⟩ := open_bytes (hval 2 37 v2 rfl rfl) h2 hw2
  clear hA0 hval0 hsz0 hsz
  have hlt0 : ∀ x ∈ p0, x.block < W.heap.size := fun x hx => by simpa using hW'.lt x (by simp [hx])
  have hlt1 : ∀ x ∈ p1, x.block < W.heap.size := fun x hx => by simpa using hW'.lt x (by simp [hx])
  have hlt2 : ∀ x ∈ p2, x.block < W.heap.size := fun x hx => by simpa using hW'.lt x (by simp [hx])
  refine (ASound.row (fun nb => opsBack_spec false false false s0 s1 s2 nb (wf_ok hok0.f) (wf_ok hok0.n) (okBytes_B hok0.d) (by have := okBytes_le hok0.d; omega) (wf_ok hok1.e) (wf_ok hok1.n) (okBytes_B hok1.d) (by have := okBytes_le hok1.d; omega) (by have := hok1.s; unfold reachB at this; omega) (okBytes_B hok2) (by have := okBytes_le hok2; omega)) (us := [v0, v1, v2]) (glob_of_laid hL) ⟨_, _, rfl, hs0, _, _, rfl, hs1, _, _, rfl, hs2, rfl⟩).mono fun e W' ⟨he, bel⟩ => ?_
  subst he
  exact ⟨_, rfl, _, _, _, [], _, [], hW', trodAll_mk1 (shut_bool Tryz.underlying4 _), (trodAll_cons_mk (Below.trod laid (by kernel_rfl) (of_decide_eq_true (by kernel_rfl)) h0 bel hlt0) (trodAll_cons_mk (Below.trod laid (by kernel_rfl) (of_decide_eq_true (by kernel_rfl)) h1 bel hlt1) (trodAll_cons_mk (Below.trod laid (by kernel_rfl) (of_decide_eq_true (by kernel_rfl)) h2 bel hlt2) trodAll_mk0))), rfl, bel.frame _, fun h => by cases h⟩
set_option maxRecDepth 100000 in
theorem cl_inPlace : (Rows.opsBackRow.inPlace == Tryz.pinned.checked.prog.inPlace 12) = true := by kernel_rfl
set_option maxRecDepth 100000 in
theorem cl_unfollowed : (Rows.opsBackRow.unfollowed == Tryz.pinned.checked.prog.unfollowed 12) = true := by kernel_rfl
set_option maxRecDepth 100000 in
theorem cl_recurses : (Rows.opsBackRow.recurses == Tryz.pinned.checked.prog.recurses 12) = true := by kernel_rfl
set_option maxRecDepth 100000 in
theorem cl_varsNamed : (Rows.opsBackRow.named == Tryz.pinned.checked.prog.varsNamed 12) = true := by kernel_rfl
set_option maxRecDepth 100000 in
theorem closed : joinedFacts Tryz.pinned.checked.prog 12 Tryz.f12 Rows.opsBackSpec Rows.opsBackRow = true := by
  unfold joinedFacts
  rw [cl_inPlace, cl_unfollowed, cl_recurses, cl_varsNamed]
  kernel_rfl
set_option maxRecDepth 100000 in
theorem over : Rows.opsBackRow.holds Tryz.pinned (OpenSpec.ofChange Rows.opsBackSpec) :=
  OpenClaim.holds_of_wide 12 Tryz.f12 rfl rfl rfl rfl rfl rfl rfl ⟨rfl, rfl, rfl, rfl, rfl⟩ rfl rfl rfl rfl rfl (by kernel_rfl) Tryz.func12 closed
    (of_decide_eq_true (by kernel_rfl)) (by unfold Func.isWrapper; first | (rw [if_pos (by decide +kernel)]; kernel_rfl) | (rw [if_neg (by decide +kernel)]; exact ⟨rfl, rfl⟩))
    (fun os started H enc _ => lifted os started H enc)
theorem wfT : Rows.opsBackRow.wfByText (OpenSpec.ofChange Rows.opsBackSpec) = true := by kernel_rfl
theorem goesT : false = Rows.opsBackRow.goesBy Tryz.pinned.checked.prog := by kernel_rfl
theorem nameT : Tryz.prog.funcNamed "undercroft/undercroftlaw11.OpsBack" = some 12 := by kernel_rfl
theorem wantT : ([55, 57, 37].all fun u => !Tryz.prog.wantsStandIn u) = true := by kernel_rfl
theorem proved : Rows.OpsBackCardSaid :=
  Claim7.holds_tied_plain_at .later [] [.data, .handle, .pinned] true (true, "99614a6981dfa3949a41461e4baab9d71b1d837fc286f2318c98390de9c6db5d") true
    over (fun _ h => by cases h) wfT (fun _ h => by cases h) opsBack_row_tie rfl ⟨rfl, rfl⟩ mainT rfl
    (fun f fn hf hfn => by
      obtain rfl : f = 12 := Option.some.inj (nameT.symm.trans hf) |>.symm
      obtain rfl : fn = Tryz.f12 := (Option.some.inj (Tryz.func12.symm.trans hfn)).symm
      exact ⟨looksT, fun j t ht => by
        rw [Tryz.params12] at ht
        have hm : t ∈ [55, 57, 37] := by simpa using Array.mem_of_getElem? ht
        exact (show Tryz.prog.wantsStandIn t = false by simpa using List.all_eq_true.1 wantT t hm)⟩)
    goesT
#print axioms proved
end Go.Proofs.YtonglhkiobibgaaGreatDoor.opsBack
namespace Go.Proofs.YtonglhkiobibgaaGreatDoor
/-- The card, under a short name, for the claim. -/
theorem opsBack_holds : Rows.OpsBackCardSaid := opsBack.proved
end Go.Proofs.YtonglhkiobibgaaGreatDoor
