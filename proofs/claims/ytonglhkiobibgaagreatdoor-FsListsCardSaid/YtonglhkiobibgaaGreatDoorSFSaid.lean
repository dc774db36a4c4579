/- FsLists, for every input: a directory's names rise, and each names what is found by its path; there are as many as it is told to have. -/
import Derived.Test.YtonglhkiobibgaaGreatDoorRows
import Derived.Test.YtonglhkiobibgaaGreatDoorTie
import Derived.Test.YtonglhkiobibgaaGreatDoorCards
import Derived.Test.YtonglhkiobibgaaGreatDoorX3
import Derived.Test.YtonglhkiobibgaaGreatDoorX5
import Derived.WalkKit
import Derived.ProofKit
import Derived.OpenShut
import Derived.ShutString
import Derived.ChangeOld
import Derived.Below
import Derived.SizedLaws
import Derived.Carry
import Derived.LaidMore
import Derived.Lay
import Derived.SevenTiedAt
import Derived.Stop.Joined
namespace Go.Proofs.YtonglhkiobibgaaGreatDoor.fsLists
open Go.ChangeShapes Go.WideShapes Go.ChangeAt Go.RowKit
set_option linter.unusedVariables false
set_option maxRecDepth 100000 in
theorem lifted (os : Os) (started : os.Started) (H : Type) (enc : TypeId × Value → H) :
    ReturnsInHanded {} Tryz.checked os 5 .any (fun w args => (Rows.fsListsSpec.pre enc Tryz.prog Tryz.f5 [] false w args ∧ laidMetH Tryz.prog Rows.fsListsRow.laid w) ∧ sizedMet enc Tryz.prog Tryz.f5 (OpenSpec.ofChange Rows.fsListsSpec) false w args)
      (Rows.fsListsSpec.post enc Tryz.prog Tryz.f5 false true false false) := by
  refine returnsInHanded_of_change_and (C := Tryz.checked) (X := fun w _ => laidMetH Tryz.prog lst w) (fun _ _ _ hh h => h.of_heap hh) own started (by kernel_rfl) Tryz.func5
    (ChangeSpec.witness_shaped (enc := enc) (C := Tryz.checked) (os := os) (X := fun w _ => laidMetH Tryz.prog lst w) false (laidWorld os) #[.agg #[.slice none 0 0, .int .i64 0], .string (ByteArray.mk #[])] 8 (laidWorld_os _) (laidWorld_shaped os _) (by kernel_rfl) (by kernel_rfl) (by kernel_rfl) (laidWorld_met os _)) ?_
  intro W base args ds gs before hval0 hW hcnd hsz0 hL _
  have hsz : (DataW.weightsEach Tryz.prog (Tryz.f5.params.toList ++ Rows.fsListsSpec.plain.varTypes Tryz.prog) (ds ++ gs)).all (· ≤ reachBytes) = true := hsz0
  have hval : ∀ (j : Nat) t v, Tryz.f5.params[j]? = some t → args[j]? = some v → Value.okWide Tryz.prog W .any base t v := hval0
  have hW' := hW
  obtain ⟨p, q, hA0, hV, rfl, hfz, hnd⟩ := hW
  have hA : DataW.TrodAll enc Tryz.prog W 0 (fun _ => true) true Tryz.f5.params.toList args.toList ds p := hA0
  rw [Tryz.params5] at hA hval hsz
  obtain ⟨v0, vs0, d0, ds0, p0, q0, hargs, rfl, rfl, h0, r0⟩ := trodAll_cons hA
  obtain ⟨v1, vs1, d1, ds1, p1, q1, rfl, rfl, rfl, h1, r1⟩ := trodAll_cons r0
  obtain ⟨rfl, rfl, rfl⟩ := trodAll_nil r1
  obtain rfl : args = #[v0, v1] := by cases args; simp_all
  obtain ⟨rfl, rfl⟩ := trodVars_none hV
  have hw0 : (d0.weights Tryz.prog 24).all (· ≤ reachBytes) = true := by
    rw [List.all_eq_true] at hsz ⊢
    exact fun x hx => hsz x (show x ∈ d0.weights Tryz.prog 24 ++ _ from List.mem_append_left _ hx)
  have hw1 : (d1.weights Tryz.prog 9).all (· ≤ reachBytes) = true := by
    rw [List.all_eq_true] at hsz ⊢
    exact fun x hx => hsz x (show x ∈ d0.weights Tryz.prog 24 ++ (d1.weights Tryz.prog 9 ++ _) from List.mem_append_right _ (List.mem_append_left _ hx))
  obtain ⟨s0, hok0, hs0⟩ := open_fs (hval 0 24 v0 rfl rfl) h0 hw0
  obtain ⟨s1, hok1, hs1⟩ := open_str (hval 1 9 v1 rfl rfl) h1 hw1
  clear hA0 hval0 hsz0 hsz
  have hlt0 : ∀ x ∈ p0, x.block < W.heap.size := fun x hx => by simpa using hW'.lt x (by simp [hx])
  have hlt1 : ∀ x ∈ p1, x.block < W.heap.size := fun x hx => by simpa using hW'.lt x (by simp [hx])
  refine (ASound.row (fun nb => fsLists_spec false s0 s1 nb hok0.inn) (us := [v0, v1]) (glob_of_laid hL) ⟨_, _, rfl, hs0, _, _, rfl, hs1, rfl⟩).mono fun e W' ⟨he, bel⟩ => ?_
  subst he
  exact ⟨_, rfl, _, _, _, [], _, [], hW', trodAll_mk1 (shut_bool Tryz.underlying4 _), (trodAll_cons_mk (Below.trod laid (by kernel_rfl) (of_decide_eq_true (by kernel_rfl)) h0 bel hlt0) (trodAll_cons_mk (Below.trod laid (by kernel_rfl) (of_decide_eq_true (by kernel_rfl)) h1 bel hlt1) trodAll_mk0)), rfl, bel.frame _, fun h => by cases h⟩
set_option maxRecDepth 100000 in
theorem cl_wf : Rows.fsListsRow.wf (OpenSpec.ofChange Rows.fsListsSpec) = true := by kernel_rfl
set_option maxRecDepth 100000 in
theorem cl_laid : laidOutB Tryz.pinned.checked.prog = true := by kernel_rfl
set_option maxRecDepth 100000 in
theorem cl_mr : mapsRowed Tryz.pinned.checked.prog = true := by kernel_rfl
set_option maxRecDepth 100000 in
theorem cl_rd : Tryz.f5.params.all (Tryz.pinned.checked.prog.readableRec ·) = true := by kernel_rfl
set_option maxRecDepth 100000 in
theorem cl_nt : namedTie Tryz.pinned.checked.prog Rows.fsListsRow.named Rows.fsListsSpec.vars = true := by kernel_rfl
set_option maxRecDepth 100000 in
theorem cl_st : (Rows.fsListsRow.stops == []) = true := by kernel_rfl
set_option maxRecDepth 100000 in
theorem cl_ps : (Tryz.pinned.checked.prog.stops == []) = true := by kernel_rfl
set_option maxRecDepth 100000 in
theorem cl_kn : (Rows.fsListsRow.knobs == []) = true := by kernel_rfl
set_option maxRecDepth 100000 in
theorem cl_sk : (Tryz.pinned.checked.prog.stopKnobs == []) = true := by kernel_rfl
set_option maxRecDepth 100000 in
theorem cl_inPlace : (Rows.fsListsRow.inPlace == Tryz.pinned.checked.prog.inPlace 5) = true := by kernel_rfl
set_option maxRecDepth 100000 in
theorem cl_unfollowed : (Rows.fsListsRow.unfollowed == Tryz.pinned.checked.prog.unfollowed 5) = true := by kernel_rfl
set_option maxRecDepth 100000 in
theorem cl_recurses : (Rows.fsListsRow.recurses == Tryz.pinned.checked.prog.recurses 5) = true := by kernel_rfl
set_option maxRecDepth 100000 in
theorem cl_named : (Rows.fsListsRow.named == Tryz.pinned.checked.prog.varsNamed 5) = true := by kernel_rfl
set_option maxRecDepth 100000 in
theorem cl_maps : (Rows.fsListsRow.maps == (Tryz.f5.params.toList ++ Rows.fsListsSpec.plain.varTypes Tryz.pinned.checked.prog).any (Tryz.pinned.checked.prog.mapsRec ·)) = true := by kernel_rfl
set_option maxRecDepth 100000 in
theorem cl_ifaces : (Rows.fsListsRow.ifaces == (Tryz.f5.params.toList ++ Rows.fsListsSpec.plain.varTypes Tryz.pinned.checked.prog).any (Tryz.pinned.checked.prog.ifacesRec ·)) = true := by kernel_rfl
set_option maxRecDepth 100000 in
theorem cl_mo : (Rows.fsListsRow.mapsOut == Tryz.pinned.checked.prog.mapsAmong Tryz.f5.resultTypes.toList) = true := by kernel_rfl
set_option maxRecDepth 100000 in
theorem cl_loops : (Rows.fsListsRow.loops == (Tryz.f5.params.toList ++ Rows.fsListsSpec.plain.varTypes Tryz.pinned.checked.prog).any (Tryz.pinned.checked.prog.loopsFrom ·)) = true := by kernel_rfl
set_option maxRecDepth 100000 in
theorem cl_wk : (Rows.fsListsRow.wideKeys == (Tryz.f5.params.toList ++ Rows.fsListsSpec.plain.varTypes Tryz.pinned.checked.prog ++ Tryz.f5.resultTypes.toList).any (Tryz.pinned.checked.prog.wideKeysFrom ·)) = true := by kernel_rfl
set_option maxRecDepth 100000 in
theorem cl_vr : Rows.fsListsSpec.vars.all (Tryz.pinned.checked.prog.varReadable ·) = true := by kernel_rfl
set_option maxRecDepth 100000 in
theorem cl_rt : Tryz.f5.resultTypes.all (fun t => Tryz.pinned.checked.prog.readableRec t && decide (t < Tryz.pinned.checked.prog.types.size)) = true := by kernel_rfl
set_option maxRecDepth 100000 in
theorem cl_io : (Rows.fsListsRow.ifacesOut == Tryz.f5.resultTypes.toList.any (Tryz.pinned.checked.prog.ifacesRec ·)) = true := by kernel_rfl
set_option maxRecDepth 100000 in
theorem cl_lo : (Rows.fsListsRow.loopsOut == Tryz.f5.resultTypes.toList.any (Tryz.pinned.checked.prog.loopsFrom ·)) = true := by kernel_rfl
set_option maxRecDepth 100000 in
theorem cl_pk : (Rows.fsListsRow.plainKeys == Tryz.pinned.checked.prog.plainKeys) = true := by kernel_rfl
set_option maxRecDepth 100000 in
theorem cl_shh : Tryz.pinned.checked.prog.stopsHeard = true := by kernel_rfl
set_option maxRecDepth 100000 in
theorem cl_me : Tryz.pinned.checked.prog.mayEnter = true := by kernel_rfl
set_option maxRecDepth 100000 in
theorem cl_lf : (Rows.fsListsRow.lifted == Tryz.pinned.checked.prog.liftsFinal) = true := by kernel_rfl
set_option maxRecDepth 100000 in
theorem cl_mk : (Tryz.pinned.checked.prog.make == some Rows.fsListsRow.make) = true := by kernel_rfl
set_option maxRecDepth 100000 in
theorem cl_pin : (Rows.fsListsRow.pinned == Rows.fsListsRow.pinnedBy) = true := by kernel_rfl
set_option maxRecDepth 100000 in
theorem cl_vl : (Rows.fsListsRow.veiled == (Tryz.f5.params.toList ++ Rows.fsListsSpec.plain.varTypes Tryz.pinned.checked.prog ++ Tryz.f5.resultTypes.toList).any (Tryz.pinned.checked.prog.veiledRec ·)) = true := by kernel_rfl
set_option maxRecDepth 100000 in
theorem cl_vf : Rows.fsListsRow.veiledFits Tryz.pinned.checked.prog Tryz.f5.params.toList (Tryz.f5.params.toList ++ Rows.fsListsSpec.plain.varTypes Tryz.pinned.checked.prog ++ Tryz.f5.resultTypes.toList) = true := by kernel_rfl
set_option maxRecDepth 100000 in
theorem closed : joinedFacts Tryz.pinned.checked.prog 5 Tryz.f5 Rows.fsListsSpec Rows.fsListsRow = true := by
  unfold joinedFacts
  rw [cl_wf, cl_laid, cl_mr, cl_rd, cl_nt, cl_st, cl_ps, cl_kn, cl_sk, cl_inPlace, cl_unfollowed, cl_recurses, cl_named, cl_maps, cl_ifaces, cl_mo, cl_loops, cl_wk, cl_vr, cl_rt, cl_io, cl_lo, cl_pk, cl_shh, cl_me, cl_lf, cl_mk, cl_pin, cl_vl, cl_vf]
  kernel_rfl
set_option maxRecDepth 100000 in
theorem over : Rows.fsListsRow.holds Tryz.pinned (OpenSpec.ofChange Rows.fsListsSpec) :=
  OpenClaim.holds_of_wide 5 Tryz.f5 rfl rfl rfl rfl rfl rfl rfl ⟨rfl, rfl, rfl, rfl, rfl⟩ rfl rfl rfl rfl rfl (by kernel_rfl) Tryz.func5 closed
    (of_decide_eq_true (by kernel_rfl)) (by unfold Func.isWrapper; first | (rw [if_pos (by decide +kernel)]; kernel_rfl) | (rw [if_neg (by decide +kernel)]; exact ⟨rfl, rfl⟩))
    (fun os started H enc _ => lifted os started H enc)
theorem wfT : Rows.fsListsRow.wfByText (OpenSpec.ofChange Rows.fsListsSpec) = true := by kernel_rfl
theorem goesT : false = Rows.fsListsRow.goesBy Tryz.pinned.checked.prog := by kernel_rfl
theorem nameT : Tryz.prog.funcNamed "undercroft/undercroftlaw10.FsLists" = some 5 := by kernel_rfl
theorem wantT : ([24, 9].all fun u => !Tryz.prog.wantsStandIn u) = true := by kernel_rfl
theorem proved : Rows.FsListsCardSaid :=
  Claim7.holds_tied_plain_at .later [] [.data, .handle, .pinned] true (true, "99614a6981dfa3949a41461e4baab9d71b1d837fc286f2318c98390de9c6db5d") true
    over (fun _ h => by cases h) wfT (fun _ h => by cases h) fsLists_row_tie rfl ⟨rfl, rfl⟩ mainT rfl
    (fun f fn hf hfn => by
      obtain rfl : f = 5 := Option.some.inj (nameT.symm.trans hf) |>.symm
      obtain rfl : fn = Tryz.f5 := (Option.some.inj (Tryz.func5.symm.trans hfn)).symm
      exact ⟨looksT, fun j t ht => by
        rw [Tryz.params5] at ht
        have hm : t ∈ [24, 9] := by simpa using Array.mem_of_getElem? ht
        exact (show Tryz.prog.wantsStandIn t = false by simpa using List.all_eq_true.1 wantT t hm)⟩)
    goesT
#print axioms proved
end Go.Proofs.YtonglhkiobibgaaGreatDoor.fsLists
namespace Go.Proofs.YtonglhkiobibgaaGreatDoor
/-- The card, under a short name, for the claim. -/
theorem fsLists_holds : Rows.FsListsCardSaid := fsLists.proved
end Go.Proofs.YtonglhkiobibgaaGreatDoor
