/- Merged texts: M1, J0, J1, J2, J3, J4, J6, J7, J5. -/
import Derived.Test.YtfoeddmbhmfjcaaXB
import Derived.Maps.RangeWalk
import Derived.Test.YtfoeddmbhmfjcaaXH
import Derived.Test.YtfoeddmbhmfjcaaProg
import Derived.Shelf.SlSortCmp.NoneTotal
import Derived.Test.YtfoeddmbhmfjcaaXA
set_option linter.unusedSimpArgs false
set_option linter.unusedVariables false
/- A range over a map that the call made: entries come, each once, in whatever order. -/
namespace Go.Proofs.Ytfoeddmbhmfjcaa
open Go.RowKit Go.Instr
open Go.ChangeMaps (setBlock)
/-- a loop over the map b, its iterator in r: what is to come, how many -/
def HasIter {κ : Type} (enc : κ → Value) (w : World) (b r : Nat) (l : List (κ × Value)) (todo : κ → Bool) (cnt : Nat) : Prop :=
  ∃ (es : Array MapEntry) (clock since : Nat) (seen : Array Nat) (c0 : Nat), w.heap[b]? = some (.map es clock) ∧ w.heap[r]? = some (.mapIter (some b) since seen c0) ∧ es.toList.map (fun e => (e.key, e.val)) = l.map (fun p => (enc p.1, p.2)) ∧ (l.map (·.1)).Nodup ∧
    (es.toList.map (·.born)).Nodup ∧ (∀ x ∈ es.toList, x.born < since) ∧ since ≤ c0 ∧ since ≤ clock ∧ (leftOf es seen).size = cnt ∧ ∀ (j : Nat) e p, es.toList[j]? = some e → l[j]? = some p → todo p.1 = !seen.contains e.born
section
variable {P : Program} {κ : Type} [DecidableEq κ] {enc : κ → Value} {w : World} {b r : Nat} {l : List (κ × Value)} {todo : κ → Bool} {cnt : Nat}
omit [DecidableEq κ] in
theorem HasIter.left_eq (h : HasIter enc w b r l todo cnt) : w.rangeLeft b r = cnt := by
  obtain ⟨es, clock, since, seen, c0, hb, hr, _, _, _, _, _, _, hc, _⟩ := h
  simp only [World.rangeLeft, hb, hr]
  exact hc
omit [DecidableEq κ] in
theorem HasIter.frame {w1 : World} (h : HasIter enc w b r l todo cnt) (h1 : w1.heap[b]? = w.heap[b]?) (h2 : w1.heap[r]? = w.heap[r]?) : HasIter enc w1 b r l todo cnt := by
  obtain ⟨es, clock, since, seen, c0, hb, hr, rest⟩ := h
  exact ⟨es, clock, since, seen, c0, h1.trans hb, h2.trans hr, rest⟩
omit [DecidableEq κ] in
theorem HasIter.lt (h : HasIter enc w b r l todo cnt) : b < w.heap.size ∧ r < w.heap.size := by
  obtain ⟨es, clock, since, seen, c0, hb, hr, rest⟩ := h
  exact ⟨lt_of_heap hb, lt_of_heap hr⟩
omit [DecidableEq κ] in
theorem HasIter.below {w1 : World} (h : HasIter enc w b r l todo cnt) (hb : Below w.heap.size w w1) : HasIter enc w1 b r l todo cnt := h.frame (hb.block b h.lt.1) (hb.block r h.lt.2)
omit [DecidableEq κ] in
theorem hasIter_start {t k e : TypeId} (ht : P.underlying t = some (.map k e)) (h : HasMap enc w b l) :
    ∃ w', (Instr.range t (.map (some b))).run P w = .ok (.pointer (some ⟨w.heap.size, 0, none⟩)) w' ∧ HasIter enc w' b w.heap.size l (fun _ => true) l.length ∧ Below w.heap.size w w' ∧ w'.heap.size = w.heap.size + 1 := by
  have hlt := h.lt
  obtain ⟨es, clock, hb, he, hn, hbo, hnd⟩ := h
  refine ⟨_, run_range_map w t k e b es clock ht hb, ⟨es, clock, clock, #[], clock, (Below.heap_alloc _ _ _ hlt).trans hb, heap_alloc_new w _, he, hn, hnd, hbo, Nat.le_refl _, Nat.le_refl _, ?_, fun j e p _ _ => by simp⟩, (Below.refl _ _).alloc (Nat.le_refl _) _, by simp⟩
  have := congrArg List.length he
  simp only [List.length_map, Array.length_toList] at this
  rw [← this]
  simp [leftOf]
theorem hasIter_next (h : HasIter enc w b r l todo cnt) (ty : TypeId) :
    (cnt = 0 ∧ (∀ p ∈ l, todo p.1 = false) ∧ (Instr.next (.pointer (some ⟨r, 0, none⟩)) false ty).run P w = .ok (.tuple #[.bool false]) w) ∨
    ∃ k v w' cnt', (k, v) ∈ l ∧ todo k = true ∧ (Instr.next (.pointer (some ⟨r, 0, none⟩)) false ty).run P w = .ok (.tuple #[.bool true, enc k, v]) w' ∧ HasIter enc w' b r l (fun x => todo x && !decide (x = k)) cnt' ∧ cnt' < cnt ∧
      w.grownBy w' (some r) ∧ w'.heap.size = w.heap.size ∧ (Instr.entry (.pointer (some ⟨r, 0, none⟩))).run P w' = .ok (.tuple #[enc k, v]) w' := by
  obtain ⟨es, clock, since, seen, c0, hb, hr, he, hn, hnd, hold, hs0, hsc, hcnt, hto⟩ := h
  have hlen : es.toList.length = l.length := by simpa using congrArg List.length he
  have hne : b ≠ r := fun e1 => by rw [e1, hr] at hb; cases hb
  have pair : ∀ (j : Nat) e p, es.toList[j]? = some e → l[j]? = some p → e.key = enc p.1 ∧ e.val = p.2 := fun j e p h1 h2 => by
    have := congrArg (fun q => q[j]?) he
    simp only [List.getElem?_map, h1, h2, Option.map_some, Option.some.injEq, Prod.mk.injEq] at this
    exact this
  rcases run_next_at (P := P) w ty r b since c0 seen es clock hr hb hold hs0 with ⟨h0, hrun⟩ | ⟨e, hel, w1, hal, hrun⟩
  · refine .inl ⟨by omega, fun p hp => ?_, hrun⟩
    obtain ⟨j, hj⟩ := List.getElem?_of_mem hp
    have hjl : j < es.toList.length := by rw [hlen]; exact (List.getElem?_eq_some_iff.1 hj).1
    rw [hto j _ p (List.getElem?_eq_getElem hjl) hj]
    have : leftOf es seen = #[] := Array.eq_empty_of_size_eq_zero h0
    unfold leftOf at this
    rw [Array.filter_eq_empty_iff] at this
    have h9 := this es.toList[j] (by simp)
    simpa using h9
  · have hmem : e ∈ es.toList ∧ seen.contains e.born = false := by
      unfold leftOf at hel
      simpa using hel
    obtain ⟨j, hj⟩ := List.getElem?_of_mem hmem.1
    have hjl : j < l.length := by rw [← hlen]; exact (List.getElem?_eq_some_iff.1 hj).1
    obtain ⟨p, hp⟩ : ∃ p, l[j]? = some p := ⟨_, List.getElem?_eq_getElem hjl⟩
    obtain ⟨hk, hv⟩ := pair j e p hj hp
    have hr1 : w1.heap[r]? = some (.mapIter (some b) since seen c0) := by rcases hal with rfl | rfl <;> exact hr
    have hb1 : w1.heap[b]? = some (.map es clock) := by rcases hal with rfl | rfl <;> exact hb
    have hset := MapKept.heap_set (o' := .mapIter (some b) since (seen.push e.born) clock) hr1
    have hb' : (setBlock w1 r (.mapIter (some b) since (seen.push e.born) clock)).heap[b]? = some (.map es clock) := (hset.2 b (fun e1 => hne e1)).trans hb1
    rw [hk, hv] at hrun
    refine .inr ⟨p.1, p.2, _, _, List.mem_of_getElem? hp, by rw [hto j e p hj hp, hmem.2]; rfl, hrun, ⟨es, clock, since, seen.push e.born, clock, hb', hset.1, he, hn, hnd, hold, hsc, hsc, rfl, fun i e2 p2 hi hp2 => ?_⟩, ?_, ?_, ?_, ?_⟩
    · have hbe : (e2.born = e.born) ↔ (p2.1 = p.1) := by
        constructor
        · intro h9
          have h1 : (es.toList.map (·.born))[i]? = some e2.born := by rw [List.getElem?_map, hi]; rfl
          have h2 : (es.toList.map (·.born))[j]? = some e.born := by rw [List.getElem?_map, hj]; rfl
          have hij : i = j := by
            have hi' := (List.getElem?_eq_some_iff.1 h1).1
            exact (List.getElem?_inj hi' hnd).1 (by rw [h1, h2, h9])
          subst hij
          rw [hp] at hp2
          cases hp2; rfl
        · intro h9
          have h1 : (l.map (·.1))[i]? = some p2.1 := by rw [List.getElem?_map, hp2]; rfl
          have h2 : (l.map (·.1))[j]? = some p.1 := by rw [List.getElem?_map, hp]; rfl
          have hij : i = j := by
            have hi' := (List.getElem?_eq_some_iff.1 h1).1
            exact (List.getElem?_inj hi' hn).1 (by rw [h1, h2, h9])
          subst hij
          rw [hi] at hj
          cases hj; rfl
      simp only
      rw [hto i e2 p2 hi hp2, contains_push]
      by_cases h9 : p2.1 = p.1
      · have h10 := hbe.2 h9
        simp [h9, h10]
      · have h10 : ¬ e2.born = e.born := fun h => h9 (hbe.1 h)
        simp [h9, h10]
    · rw [← hcnt]
      exact left_shrinks es seen e hel
    · rcases hal with rfl | rfl <;> exact ⟨rfl, rfl, rfl, by simp [setBlock], fun i _ hi => hset.2 i (fun e1 => hi (by rw [e1]))⟩
    · rcases hal with rfl | rfl <;> simp [setBlock]
    · have := run_entry_at (P := P) _ r b since seen es clock e hset.1 hb' hmem.1 hnd
      rw [hk, hv] at this
      exact this
variable {ops : Array Oper} {rest : List Oper} {o : Oper} {a : Act} {Q : Exit → Act → World → Prop}
omit [DecidableEq κ] in
theorem wpList_range_iter (hg : o.guard = none) (m : Operand) (t : TypeId) (hop : o.op = Op.range t m) (k e : TypeId) (ht : P.underlying t = some (.map k e)) (hm : a.eval m = .map (some b)) (h : HasMap enc w b l)
    (hK : ∀ w', HasIter enc w' b w.heap.size l (fun _ => true) l.length → Below w.heap.size w w' → w'.heap.size = w.heap.size + 1 → wpList P ops Q rest (a.put o.dst (.pointer (some ⟨w.heap.size, 0, none⟩))) w') :
    wpList P ops Q (o :: rest) a w := by
  refine wpList_plain hg fun K' hK' => ?_
  obtain ⟨w', hrun, r1, r2, r3⟩ := hasIter_start (P := P) ht h
  unfold Oper.wp
  simp [execOp, hop, hm, hrun, Result.andThen]
  exact hK' _ _ (hK w' r1 r2 r3)
theorem wpList_next_iter (hg : o.guard = none) (it : Operand) (hop : o.op = Op.next it false) (hit : a.eval it = .pointer (some ⟨r, 0, none⟩)) (h : HasIter enc w b r l todo cnt)
    (hDone : cnt = 0 → (∀ p ∈ l, todo p.1 = false) → wpList P ops Q rest (a.put o.dst (.tuple #[.bool false])) w)
    (hMore : ∀ k v w' cnt', (k, v) ∈ l → todo k = true → HasIter enc w' b r l (fun x => todo x && !decide (x = k)) cnt' → cnt' < cnt → w.grownBy w' (some r) → w'.heap.size = w.heap.size →
      (Instr.entry (.pointer (some ⟨r, 0, none⟩))).run P w' = .ok (.tuple #[enc k, v]) w' → wpList P ops Q rest (a.put o.dst (.tuple #[.bool true, enc k, v])) w') :
    wpList P ops Q (o :: rest) a w := by
  refine wpList_plain hg fun K' hK' => ?_
  unfold Oper.wp
  rcases hasIter_next (P := P) h o.type with ⟨h0, hl, hrun⟩ | ⟨k, v, w', cnt', h1, h2, hrun, h3, h4, h5, h6, h7⟩
  · simp [execOp, hop, hit, hrun, Result.andThen]
    exact hK' _ _ (hDone h0 hl)
  · simp [execOp, hop, hit, hrun, Result.andThen]
    exact hK' _ _ (hMore k v w' cnt' h1 h2 h3 h4 h5 h6 h7)
end
end Go.Proofs.Ytfoeddmbhmfjcaa
/- Steps by hand between the machine's steps. -/
namespace Go.Proofs.Ytfoeddmbhmfjcaa
open Go.RowKit
section
variable {P : Program} {ops : Array Oper} {N nx : Nat} {Q : Exit → Act → World → Prop} {c d : Cx} {st : ASt} {a : Act}

/-- an operation of the machine, alone -/
theorem hand_eff {done done' : Nat → Prop} (h : RelR N nx done c st a) {i : Nat} {o : Oper} {ao : AO} {r : AV} {R : List Nat} {W : List (Nat × Option AObj)} (ho : ops[i]? = some o) (hg : o.guard = none) (hd : dstOk o.dst N = true) (hao : compOp P o = some ao)
    (hm : DoesA P st.env (nx + 64 * i) (eff (evA st.env) (nx + 64 * i) ao) ao) (hr : (eff (evA st.env) (nx + 64 * i) ao).run st.σ = some (r, R, W)) (hi : ¬ done i) (hdn : ∀ j, done j ∨ j = i → done' j) {K : Act → World → Prop}
    (hK : ∀ c' a', Later nx c c' → RelR N nx done' c' ⟨putE st.env o.dst r, app st.σ W, st.nx⟩ a' → K a' c'.w) : wpOp P ops Q i K a c.w := by
  refine entry_wp (e := ⟨i, o, some (eff (evA st.env) (nx + 64 * i) ao), r, R, W⟩) (N := N) h ⟨ho, fun t ht => ?_, .inl hg, hr, ao, hao, hm⟩ hi hdn hK
  have ht' : o.dst = some t := ht
  rw [ht'] at hd
  simpa [dstOk] using hd
/-- an operation that is carried out by hand: its value, and the moment behind it -/
theorem hand_op {done done' : Nat → Prop} (h : RelR N nx done c st a) {i : Nat} {o : Oper} {r : AV} {v : Value} (ho : ops[i]? = some o) (hg : o.guard = none) (hd : dstOk o.dst N = true) (hrun : (execOp a.eval o).run P c.w = .ok (.value v) d.w)
    (T : Then c (nx + 64 * i) [] d) (hv : VR d r v) (hdn : ∀ j, done j ∨ j = i → done' j) {K : Act → World → Prop} (hK : RelR N nx done' d ⟨putE st.env o.dst r, st.σ, st.nx⟩ (a.put o.dst v) → K (a.put o.dst v) d.w) : wpOp P ops Q i K a c.w := by
  unfold wpOp
  rw [ho]
  simp only
  rw [show Region.wanted o (yielded ops a.tmps) = true from by simp [Region.wanted, hg], if_pos rfl]
  left
  unfold Oper.wp
  rw [hrun, Oper.upon_value]
  refine hK (h.put T hv (fun t ht => ?_) hdn)
  rw [ht] at hd
  simpa [dstOk] using hd
/-- a call that is carried out by hand -/
theorem hand_call {done done' : Nat → Prop} (h : RelR N nx done c st a) {i : Nat} {o : Oper} {f : Nat} {args : Array Value} (ho : ops[i]? = some o) (hg : o.guard = none) (hd : dstOk o.dst N = true) (hrun : (execOp a.eval o).run P c.w = .ok (.enter f args) c.w)
    {K : Act → World → Prop} (hc : Calls P f args c.w fun e w' => ∃ v d r, e = .returned v ∧ d.w = w' ∧ VR d r v ∧ Then c (nx + 64 * i) [] d ∧ (RelR N nx done' d ⟨putE st.env o.dst r, st.σ, st.nx⟩ (a.put o.dst v) → K (a.put o.dst v) d.w)) (hdn : ∀ j, done j ∨ j = i → done' j) : wpOp P ops Q i K a c.w := by
  unfold wpOp
  rw [ho]
  simp only
  rw [show Region.wanted o (yielded ops a.tmps) = true from by simp [Region.wanted, hg], if_pos rfl]
  left
  unfold Oper.wp
  rw [hrun, Oper.upon_enter]
  refine hc.mono ?_
  rintro e w' ⟨v, d, r, rfl, rfl, h1, h2, h3⟩
  refine h3 (h.put h2 h1 (fun t ht => ?_) hdn)
  rw [ht] at hd
  simpa [dstOk] using hd
/-- the rest of a region in its text's order -/
theorem text_from {k : Nat} {rs : List RO} (hk : k ≤ ops.size) (hc : compROs P ops N (ops.toList.drop k) [] = some rs) (h : RelR N nx (fun j => j < k) c st a) {K : ASt → Prop} (hr : runL P nx rs k st [] fun s _ => K s)
    (hQ : ∀ c' a' f, Later nx c c' → RelR N nx (fun j => j < ops.size) c' f a' → f.nx = st.nx → K f → Q .normal a' c'.w) : wpOps P ops Q (List.range' k (ops.size - k)) a c.w := by
  obtain ⟨e1, e2⟩ := compROs_spec (k := k) hc (fun j o hj => by rw [List.getElem?_drop] at hj; simpa using hj) (fun j hj q hq => by simp at hq)
  obtain ⟨tr, f, t1, t2, t3, t4, t5⟩ := runL_trace e2 hr
  have hlen : tr.length = ops.size - k := by rw [t1, e1]; simp
  rw [← hlen]
  exact text_trace tr k st c a (by omega) t2 t3 h (fun c' a' hl' hr' => hQ c' a' f hl' hr' t5 t4)
theorem RelR.shut {k nx : Nat} (h : RelR N nx (fun j => j < k) c st a) (l : List (Nat × AV)) (he : ∀ t, envOf l t = st.env t ∨ envOf l t = .any) : RelR N (nx + 64 * k) No c ⟨envOf l, st.σ, nx + 64 * k⟩ a := h.close _ he
/-- .. and the region's end -/
theorem text_shut {k : Nat} {rs : List RO} (hk : k ≤ ops.size) (hc : compROs P ops N (ops.toList.drop k) [] = some rs) (h : RelR N nx (fun j => j < k) c st a) (hnx : st.nx = nx) {st' : ASt} {keep : List Nat} (hr : runL P nx rs k st [] fun s _ => Weak N 0 ⟨envOf (keep.map fun k => (k, s.env k)), s.σ, nx + 64 * ops.size⟩ st')
    (hQ : ∀ c' a', Grow c c' → RelR N st'.nx No c' st' a' → Q .normal a' c'.w) : wpOps P ops Q (List.range' k (ops.size - k)) a c.w := by
  refine text_from hk hc h hr fun c' a' f hl h1 _ hw => ?_
  obtain ⟨c2, e2, g2, _, h2, _⟩ := hw c' a' (h1.shut _ (envOf_map f.env keep)) (Nat.zero_le _)
  rw [← e2]
  exact hQ c2 a' (hl.grow.trans g2) h2
theorem hand_call0 {i : Nat} {o : Oper} {f : Nat} {args : Array Value} {w : World} (ho : ops[i]? = some o) (hg : o.guard = none) (hrun : (execOp a.eval o).run P w = .ok (.enter f args) w)
    {K : Act → World → Prop} (hc : Calls P f args w fun e w' => ∃ v, e = .returned v ∧ K (a.put o.dst v) w') : wpOp P ops Q i K a w := by
  unfold wpOp
  rw [ho]
  simp only
  rw [show Region.wanted o (yielded ops a.tmps) = true from by simp [Region.wanted, hg], if_pos rfl]
  left
  unfold Oper.wp
  rw [hrun, Oper.upon_enter]
  refine hc.mono ?_
  rintro e w' ⟨v, rfl, h3⟩
  exact h3
theorem exec_mv {o : Oper} {x : Operand} (hop : o.op = Op.move x) (a : Act) (w : World) : (execOp a.eval o).run P w = .ok (.value (a.eval x)) w := by
  simp [execOp, hop]
theorem exec_ext {o : Oper} {x : Operand} {i : Nat} {us : Array Value} {v : Value} (hop : o.op = Op.extract x i) (hm : a.eval x = .tuple us) (hi : us[i]? = some v) (w : World) : (execOp a.eval o).run P w = .ok (.value v) w := by
  simp [execOp, hop, hm, hi, Instr.extract, Result.andThen]
theorem act_put_same (a : Act) (d : Nat) (v : Value) (h : d < a.tmps.size) : (a.put (some d) v).eval (.tmp d) = v := by
  show (a.tmps.setIfInBounds d v).getD d undef = v
  simp [h]
theorem act_put_ne (a : Act) (d j : Nat) (v : Value) (h : d ≠ j) : (a.put (some d) v).eval (.tmp j) = a.eval (.tmp j) := by
  show (a.tmps.setIfInBounds d v).getD j undef = a.tmps.getD j undef
  simp [Array.getElem?_setIfInBounds_ne h]
theorem RelR.start (h : RelR N st.nx No c st a) : RelR N st.nx (fun j => j < 0) c st a :=
  ⟨h.defers, h.size, h.env, h.hr, h.σ, fun id h1 h2 => by obtain ⟨j, h3, _⟩ := h.fresh id h1 h2; exact h3.elim⟩
/-- block r, another's and free, is another object now -/
theorem Cx.turn {w' : World} {r : Nat} {nb : Nat} (h : HR c) (hX : c.X r) (hY : c.Y r = .free) (hg : c.w.grownBy w' (some r)) (hnc : ∀ cs e f, c.w.heap[r]? ≠ some (.cells cs e f)) : Then c nb [] ⟨w', c.B, c.φ, c.σ, c.X, c.Y⟩ := by
  have g : Grow c ⟨w', c.B, c.φ, c.σ, c.X, c.Y⟩ := by
    refine ⟨rfl, rfl, hg.output, hg.os, hg.tape, hg.size, fun b hb _ hy => hg.block b hb (fun e => ?_), fun b hb => .inl hb, fun b cs e f hb => ⟨cs, f, ?_, rfl⟩, rfl, fun b k sz _ _ h3 h4 h5 => ?_⟩
    · cases e
      have := hy hX
      rw [hY] at this; cases this
    · exact (hg.block b (lt_of_heap hb) (fun e => by cases e; exact hnc _ _ _ hb)).trans hb
    · obtain ⟨cs, e, h6, h7⟩ := h5
      exact ⟨cs, e, (hg.block b (lt_of_heap h6) (fun e => by cases e; exact hnc _ _ _ h6)).trans h6, h7⟩
  have n : Names c ⟨w', c.B, c.φ, c.σ, c.X, c.Y⟩ := fun _ _ h => h
  refine ⟨g, n, ⟨fun id y e cells hs => ?_, h.inj, Nat.le_trans h.base hg.size, fun b hx => Nat.lt_of_lt_of_le (h.xlt b hx) hg.size⟩, rfl, fun _ h => .inl h⟩
  rcases h.row id y e cells hs with h1 | ⟨b, cs, h1, h2, h3, h4, h5⟩
  · exact .inl h1
  · refine .inr ⟨b, cs, h1, (hg.block b (lt_of_heap h2) (fun e => by cases e; exact h3.2 hX)).trans h2, h3, h4, fun j a hj => ?_⟩
    obtain ⟨u, k1, k2, k3⟩ := h5 j a hj
    exact ⟨u, k1, k2, VR.mono g n k3⟩
theorem exec_call {o : Oper} {f : Nat} {args : List Operand} (hao : compOp P o = some (.call f args)) (hent : enters P f = true) (a : Act) (w : World) : (execOp a.eval o).run P w = .ok (.enter f (args.map a.eval).toArray) w := by
  obtain ⟨cl, e1, e2, rfl⟩ := comp_call hao
  simp only [execOp, e1, resolve, e2, show a.eval (.func f) = .func (.func f) #[] #[] from rfl, Deferred.ofValue, invoke, Sem.run_bind, Sem.run_pure, Result.andThen_ok]
  simp [run_callFunc hent]
  apply Array.ext'
  simp
theorem exec_range {o : Oper} {t : TypeId} {m : Operand} (hop : o.op = Op.range t m) {v v' : Value} {w w' : World} (hm : a.eval m = v) (hr : (Instr.range t v).run P w = .ok v' w') : (execOp a.eval o).run P w = .ok (.value v') w' := by
  simp [execOp, hop, hm, hr, Result.andThen]
theorem exec_next {o : Oper} {it : Operand} (hop : o.op = Op.next it false) {v v' : Value} {w w' : World} (hm : a.eval it = v) (hr : (Instr.next v false o.type).run P w = .ok v' w') : (execOp a.eval o).run P w = .ok (.value v') w' := by
  simp [execOp, hop, hm, hr, Result.andThen]
theorem exec_entry {o : Oper} {it : Operand} (hop : o.op = Op.entry it) {v v' : Value} {w w' : World} (hm : a.eval it = v) (hr : (Instr.entry v).run P w = .ok v' w') : (execOp a.eval o).run P w = .ok (.value v') w' := by
  simp [execOp, hop, hm, hr, Result.andThen]
/-- code of the machine, ahead of a walk by hand -/
theorem aw_run {code : Code} {ac : AC} {st' : ASt} {Q' : Exit → Act → World → Prop} (hrel : RelR N st.nx No c st a) (hc : compCode P N code = some ac.forget) (hw : wpC P N 0 ac st fun e s => e = .normal ∧ Weak N 0 s st')
    (hQ : ∀ c' a', Grow c c' → RelR N st'.nx No c' st' a' → Q' .normal a' c'.w) : code.wp P Q' a c.w := by
  refine wp_mono (wpC_sound hw code hc c a hrel (Nat.zero_le _)) ?_
  rintro e a1 w1 ⟨c1, s1, rfl, g1, _, h1, _, rfl, hk⟩
  obtain ⟨c2, e2, g2, _, h2, _⟩ := hk c1 a1 h1 (Nat.zero_le _)
  rw [← e2]
  exact hQ c2 a1 (g1.trans g2) h2
/-- .. that may end the function -/
theorem aw_run2 {code : Code} {ac : AC} {st' st2 : ASt} {p q : Prop} {Q' : Exit → Act → World → Prop} (hrel : RelR N st.nx No c st a) (hc : compCode P N code = some ac.forget) (hw : wpC P N 0 ac st fun e s => (e = .normal ∧ p ∧ Weak N 0 s st') ∨ (e = .ret ∧ q ∧ Weak N 0 s st2))
    (hQ : ∀ c' a', p → Grow c c' → RelR N st'.nx No c' st' a' → Q' .normal a' c'.w) (hR : ∀ c' a', q → Grow c c' → RelR N st2.nx No c' st2 a' → Q' .ret a' c'.w) : code.wp P Q' a c.w := by
  refine wp_mono (wpC_sound hw code hc c a hrel (Nat.zero_le _)) ?_
  rintro e a1 w1 ⟨c1, s1, rfl, g1, _, h1, _, ⟨rfl, hp, hk⟩ | ⟨rfl, hq, hk⟩⟩
  · obtain ⟨c2, e2, g2, _, h2, _⟩ := hk c1 a1 h1 (Nat.zero_le _)
    rw [← e2]
    exact hQ c2 a1 hp (g1.trans g2) h2
  · obtain ⟨c2, e2, g2, _, h2, _⟩ := hk c1 a1 h1 (Nat.zero_le _)
    rw [← e2]
    exact hR c2 a1 hq (g1.trans g2) h2
theorem below_grow (g : Grow c d) (hT : ∀ b, ¬ c.T b) (hY : ∀ b, c.Y b = .no) : Below c.w.heap.size c.w d.w := ⟨g.osE, g.tape, g.out, g.size, fun b hb => g.stay b hb (hT b) (fun _ => hY b)⟩
mutual
/-- no slice or pointer inside by which others' blocks may be written; no names -/
def Nw : AV → Prop
  | .any | .v _ | .wv _ => True
  | .fs _ cs _ | .fp _ cs _ | .agg cs | .tup cs | .fn _ cs => NwL cs
  | .os _ _ _ _ | .op _ _ | .ws _ _ | .wp _ => False
def NwL : List AV → Prop
  | [] => True
  | a :: r => Nw a ∧ NwL r
end
theorem NwL_iff : ∀ {l : List AV}, NwL l ↔ ∀ a ∈ l, Nw a
  | [] => by simp [NwL]
  | a :: r => by rw [NwL, NwL_iff (l := r)]; simp
mutual
theorem VR.nw {c d : Cx} (hw : d.w = c.w) (hk : ∀ fr b, b < c.w.heap.size → c.ok fr b → d.ok fr b) : ∀ {a : AV} {u : Value}, Nw a → VR c a u → VR d a u
  | .any, u, _, _ => trivial
  | .v x, u, _, k => k
  | .wv q, u, _, k => k
  | .fs fr cs n, u, q, k => by
    obtain ⟨A, k', rfl, hk', hm⟩ := k
    refine ⟨A, k', rfl, hk', fun h0 => ?_⟩
    obtain ⟨b, off, rfl, e1, e2, e3⟩ := hm h0
    exact ⟨b, off, rfl, by rw [hw]; exact e1, hk fr b e1 e2, VRm.nw hw hk q e3⟩
  | .fp fr cs n, u, q, k => by
    obtain ⟨b, off, rfl, e1, e2, e3⟩ := k
    exact ⟨b, off, rfl, by rw [hw]; exact e1, hk fr b e1 e2, VRm.nw hw hk q e3⟩
  | .agg l, u, q, k => by obtain ⟨us, rfl, k⟩ := k; exact ⟨us, rfl, VRl.nw hw hk q k⟩
  | .tup l, u, q, k => by obtain ⟨us, rfl, k⟩ := k; exact ⟨us, rfl, VRt.nw hw hk q k⟩
  | .fn f l, u, q, k => by obtain ⟨us, rfl, k⟩ := k; exact ⟨us, rfl, VRt.nw hw hk q k⟩
theorem VRm.nw {c d : Cx} (hw : d.w = c.w) (hk : ∀ fr b, b < c.w.heap.size → c.ok fr b → d.ok fr b) {b : Nat} : ∀ {cs : List AV} {off : Nat}, NwL cs → VRm c b off cs → VRm d b off cs
  | [], _, _, _ => trivial
  | a :: r, off, q, k => by
    rw [VRm] at k ⊢
    obtain ⟨⟨u, h1, h2, h3⟩, h4⟩ := k
    exact ⟨⟨u, by rw [hw]; exact h1, h2, VR.nw hw hk q.1 h3⟩, VRm.nw hw hk q.2 h4⟩
theorem VRl.nw {c d : Cx} (hw : d.w = c.w) (hk : ∀ fr b, b < c.w.heap.size → c.ok fr b → d.ok fr b) : ∀ {cs : List AV} {us : List Value}, NwL cs → VRl c cs us → VRl d cs us
  | [], _, _, k => k
  | a :: r, us, q, k => by
    rw [VRl] at k ⊢
    obtain ⟨u, us', rfl, h1, h2, h3⟩ := k
    exact ⟨u, us', rfl, h1, VR.nw hw hk q.1 h2, VRl.nw hw hk q.2 h3⟩
theorem VRt.nw {c d : Cx} (hw : d.w = c.w) (hk : ∀ fr b, b < c.w.heap.size → c.ok fr b → d.ok fr b) : ∀ {cs : List AV} {us : List Value}, NwL cs → VRt c cs us → VRt d cs us
  | [], _, _, k => k
  | a :: r, us, q, k => by
    rw [VRt] at k ⊢
    obtain ⟨u, us', rfl, h2, h3⟩ := k
    exact ⟨u, us', rfl, VR.nw hw hk q.1 h2, VRt.nw hw hk q.2 h3⟩
end
section
variable {Y : Nat → WK}
/-- .. with other kinds of another's blocks -/
abbrev Cx.reY (c : Cx) (Y : Nat → WK) : Cx := ⟨c.w, c.B, c.φ, c.σ, c.X, Y⟩
mutual
theorem VR.reY {c : Cx} (hk : ∀ k b n, c.wok k b n → (c.reY Y).wok k b n) : ∀ {a : AV} {u : Value}, VR c a u → VR (c.reY Y) a u
  | .any, u, _ => trivial
  | .v x, u, k => k
  | .wv q, u, k => k
  | .fs fr cs n, u, k => by
    obtain ⟨A, k', rfl, hk', hm⟩ := k
    refine ⟨A, k', rfl, hk', fun h0 => ?_⟩
    obtain ⟨b, off, rfl, e1, e2, e3⟩ := hm h0
    exact ⟨b, off, rfl, e1, e2, VRm.reY hk e3⟩
  | .fp fr cs n, u, k => by
    obtain ⟨b, off, rfl, e1, e2, e3⟩ := k
    exact ⟨b, off, rfl, e1, e2, VRm.reY hk e3⟩
  | .os _ _ _ _, u, k => k
  | .op _ _, u, k => k
  | .ws q n, u, k => by
    obtain ⟨A, r, rfl, h1, h2⟩ := k
    refine ⟨A, r, rfl, h1, fun h0 => ?_⟩
    obtain ⟨b, off, rfl, e1⟩ := h2 h0
    exact ⟨b, off, rfl, hk _ _ _ e1⟩
  | .wp q, u, k => by
    obtain ⟨b, off, rfl, e1⟩ := k
    exact ⟨b, off, rfl, hk _ _ _ e1⟩
  | .agg l, u, k => by obtain ⟨us, rfl, k⟩ := k; exact ⟨us, rfl, VRl.reY hk k⟩
  | .tup l, u, k => by obtain ⟨us, rfl, k⟩ := k; exact ⟨us, rfl, VRt.reY hk k⟩
  | .fn f l, u, k => by obtain ⟨us, rfl, k⟩ := k; exact ⟨us, rfl, VRt.reY hk k⟩
theorem VRm.reY {c : Cx} (hk : ∀ k b n, c.wok k b n → (c.reY Y).wok k b n) {b : Nat} : ∀ {cs : List AV} {off : Nat}, VRm c b off cs → VRm (c.reY Y) b off cs
  | [], _, _ => trivial
  | a :: r, off, k => by
    rw [VRm] at k ⊢
    obtain ⟨⟨u, h1, h2, h3⟩, h4⟩ := k
    exact ⟨⟨u, h1, h2, VR.reY hk h3⟩, VRm.reY hk h4⟩
theorem VRl.reY {c : Cx} (hk : ∀ k b n, c.wok k b n → (c.reY Y).wok k b n) : ∀ {cs : List AV} {us : List Value}, VRl c cs us → VRl (c.reY Y) cs us
  | [], _, k => k
  | a :: r, us, k => by
    rw [VRl] at k ⊢
    obtain ⟨u, us', rfl, h1, h2, h3⟩ := k
    exact ⟨u, us', rfl, h1, VR.reY hk h2, VRl.reY hk h3⟩
theorem VRt.reY {c : Cx} (hk : ∀ k b n, c.wok k b n → (c.reY Y).wok k b n) : ∀ {cs : List AV} {us : List Value}, VRt c cs us → VRt (c.reY Y) cs us
  | [], _, k => k
  | a :: r, us, k => by
    rw [VRt] at k ⊢
    obtain ⟨u, us', rfl, h2, h3⟩ := k
    exact ⟨u, us', rfl, VR.reY hk h2, VRt.reY hk h3⟩
end
theorem RelR.reY {done : Nat → Prop} (hk : ∀ k b n, c.wok k b n → (c.reY Y).wok k b n) (h : RelR N nx done c st a) : RelR N nx done (c.reY Y) st a := by
  refine ⟨h.defers, h.size, fun t => (h.env t).reY hk, ⟨fun id y e cells hs => ?_, h.hr.inj, h.hr.base, h.hr.xlt⟩, h.σ, h.fresh⟩
  rcases h.hr.row id y e cells hs with h1 | ⟨b, cs, h1, h2, h3, h4, h5⟩
  · exact .inl h1
  · refine .inr ⟨b, cs, h1, h2, h3, h4, fun j x hj => ?_⟩
    obtain ⟨u, k1, k2, k3⟩ := h5 j x hj
    exact ⟨u, k1, k2, k3.reY hk⟩
theorem wok_no {c : Cx} (h : ∀ b, c.Y b = .no) {k : WK} {b n : Nat} : ¬ c.wok k b n := by
  rintro ⟨_, _, h1, h2, _⟩
  rw [h b] at h1
  rcases h2 with rfl | rfl <;> cases h1
theorem wok_free {c : Cx} {r : Nat} (h : c.Y = fun b => if b = r then .free else .no) {k : WK} {b n : Nat} : ¬ c.wok k b n := by
  rintro ⟨_, _, h1, h2, _⟩
  rw [h] at h1
  simp only at h1
  split at h1 <;> rcases h2 with rfl | rfl <;> cases h1
end
/-- a body that is walked by hand -/
theorem hand_sound {f : FuncId} {fn : Func} {code : Code} {args : List AV} {nb : Nat} {r : AV} (hf : P.funcs[f]? = some fn) (hb : fn.body = some code) (hn : enters P f = true) (hlen : args.length ≤ fn.ntmps) (hpure : NwL args) (hr : Nw r)
    (h : ∀ (c : Cx) (a : Act), (∀ b, c.Y b = .no) → RelR fn.ntmps 0 No c ⟨envA args, fun _ => none, 0⟩ a → code.wp P (fun e a' w' => (e = .normal ∨ e = .ret) ∧ a'.defers = [] ∧ ∃ v d, (results fn a'.tmps).run P w' = .ok v w' ∧ d.w = w' ∧ VR d r v ∧
      Below c.w.heap.size c.w w' ∧ d.B = c.B ∧ ∀ b, c.X b → d.X b) a c.w) : ASound P f args nb (.ret r []) := by
  refine ⟨hn, fun c us r' R W' hrun hr0 hfr hv => ?_⟩
  simp [AM.run] at hrun
  obtain ⟨rfl, rfl, rfl⟩ := hrun
  refine calls_of_wp hf hb ?_
  generalize hc1 : (⟨c.w, c.B, fun _ => none, fun _ => none, fun b => c.T b ∨ c.X b, fun _ => .no⟩ : Cx) = c1
  have w1 : c1.w = c.w := by rw [← hc1]
  have B1 : c1.B = c.B := by rw [← hc1]
  have σ1 : c1.σ = fun _ => none := by rw [← hc1]
  have φ1 : c1.φ = fun _ => none := by rw [← hc1]
  have X1 : ∀ b, c1.X b ↔ (c.T b ∨ c.X b) := by rw [← hc1]; intro b; rfl
  have T1 : ∀ b, ¬ c1.T b := by rintro b ⟨id, o, e1, _⟩; rw [σ1] at e1; cases e1
  have Tlt : ∀ b, c.T b → b < c.w.heap.size := by
    rintro b ⟨id, ⟨y, e, cells⟩, e1, e2⟩
    rcases hr0.row id y e cells e1 with ⟨g1, _⟩ | ⟨b', cs, g1, g2, _⟩
    · rw [e2] at g1; cases g1
    · rw [e2] at g1; cases g1; exact (Array.getElem?_eq_some_iff.1 g2).1
  have hx1 : ∀ b, c1.X b → b < c1.w.heap.size := by
    intro b hb
    rw [w1]
    rcases (X1 b).1 hb with h9 | h9
    · exact Tlt b h9
    · exact hr0.xlt b h9
  have hr1 : HR c1 := ⟨fun id y e cells hs => (by rw [σ1] at hs; cases hs), fun id id' b e1 => (by rw [σ1] at e1; exact absurd rfl e1), (by rw [B1, w1]; exact hr0.base), hx1⟩
  have ok1 : ∀ fr b, b < c.w.heap.size → c.ok fr b → c1.ok fr b := fun fr b _ ho => ⟨by rw [B1]; exact ho.1, T1 b, by rw [X1]; rintro (h9 | h9) <;> first | exact ho.2.1 h9 | exact ho.2.2 h9⟩
  have hv1 : VRt c1 args us := VRt.nw w1 ok1 hpure hv
  have hul := (VRt_iff.1 hv1).1
  have hrel : RelR fn.ntmps 0 No c1 ⟨envA args, fun _ => none, 0⟩ { tmps := us.toArray ++ Array.replicate (fn.ntmps - us.toArray.size) undef, defers := [] } := by
    refine ⟨rfl, by simp; omega, fun t => ?_, hr1, σ1, fun id _ hne => (by rw [φ1] at hne; exact absurd rfl hne)⟩
    simp only [envA]
    cases ha : args[t]? with
    | none => trivial
    | some x =>
      obtain ⟨u, e1, e2⟩ := (VRt_iff.1 hv1).2 t x ha
      have hlt : t < us.length := by rw [List.getElem?_eq_some_iff] at e1; exact e1.1
      have : (us.toArray ++ Array.replicate (fn.ntmps - us.toArray.size) undef).getD t undef = u := by
        rw [Array.getD_eq_getD_getElem?, Array.getElem?_append_left (by simpa using hlt)]
        simp [e1]
      rw [this]; exact e2
  have hw := h c1 _ (fun b => by rw [← hc1]) hrel
  rw [w1] at hw
  refine wp_mono hw ?_
  rintro e a' w' ⟨he, hdf, v, d, h1, rfl, h2, h3, h4, h5⟩
  have fin : VR ⟨d.w, c.B, c.φ, c.σ, c.X, c.Y⟩ r v := by
    refine VR.nw (c := d) (d := ⟨d.w, c.B, c.φ, c.σ, c.X, c.Y⟩) rfl (fun fr b hb ho => ?_) hr h2
    refine ⟨fun hf' => ?_, ?_, fun hx => ?_⟩
    · have := ho.1 hf'; rw [h4, B1] at this; exact this
    · rintro ⟨id, o, e1, e2⟩
      exact ho.2.2 (h5 b ((X1 b).2 (.inl ⟨id, o, e1, e2⟩)))
    · exact ho.2.2 (h5 b ((X1 b).2 (.inr hx)))
  have out : ∃ v' d', Ending.returned v = .returned v' ∧ d'.w = d.w ∧ VR d' r v' ∧ Then c nb [] d' := ⟨v, ⟨d.w, c.B, c.φ, c.σ, c.X, c.Y⟩, rfl, rfl, fin, Then.below hr0 nb h3⟩
  rcases he with rfl | rfl
  · exact ⟨hdf, v, h1, out⟩
  · exact ⟨hdf, v, h1, out⟩
end
end Go.Proofs.Ytfoeddmbhmfjcaa
/- slices.SortFunc at the program's blocks: the library's bodies are the program's. -/
namespace Go.Proofs.Ytfoeddmbhmfjcaa
open Go.Shelf
set_option maxRecDepth 100000
def sortRen : Ren where
  f := fun x => match x with
    | 6 => 69
    | 15 => 83
    | 14 => 82
    | 28 => 95
    | 29 => 96
    | 20 => 87
    | 21 => 88
    | 22 => 89
    | 23 => 90
    | 24 => 91
    | 25 => 92
    | 26 => 93
    | 27 => 94
    | 46 => 97
    | 47 => 98
    | 48 => 99
    | 49 => 100
    | 50 => 101
    | 57 => 102
    | n => n
  t := fun x => match x with
    | 22 => 34
    | 24 => 57
    | 25 => 127
    | 3 => 3
    | 39 => 138
    | 0 => 0
    | 53 => 151
    | 55 => 153
    | 4 => 4
    | 46 => 144
    | 45 => 143
    | 50 => 148
    | 5 => 5
    | 9 => 9
    | 66 => 154
    | 70 => 158
    | 76 => 160
    | 77 => 79
    | n => n
  g := fun n => n
theorem sortLaid : SlLaysF0.n6 Try.prog sortRen where
  mixed := by kernel_rfl
  f6 := ⟨Try.f69.name, by decide, by kernel_rfl⟩
  f14 := ⟨Try.f82.name, by decide, by kernel_rfl⟩
  f15 := by kernel_rfl
  f20 := ⟨Try.f87.name, by decide, by kernel_rfl⟩
  f21 := ⟨Try.f88.name, by decide, by kernel_rfl⟩
  f22 := ⟨Try.f89.name, by decide, by kernel_rfl⟩
  f23 := ⟨Try.f90.name, by decide, by kernel_rfl⟩
  f24 := ⟨Try.f91.name, by decide, by kernel_rfl⟩
  f25 := ⟨Try.f92.name, by decide, by kernel_rfl⟩
  f26 := ⟨Try.f93.name, by decide, by kernel_rfl⟩
  f27 := ⟨Try.f94.name, by decide, by kernel_rfl⟩
  f28 := by kernel_rfl
  f29 := by kernel_rfl
  f46 := ⟨Try.f97.name, by decide, by kernel_rfl⟩
  f47 := by kernel_rfl
  f48 := by kernel_rfl
  f49 := ⟨Try.f100.name, by decide, by kernel_rfl⟩
  f50 := ⟨Try.f101.name, by decide, by kernel_rfl⟩
  f57 := ⟨Try.f102.name, by decide, by kernel_rfl⟩
  t0 := by kernel_rfl
  a0 := fun w => by kernel_rfl
  z0 := fun w => by kernel_rfl
  v0 := fun w => by kernel_rfl
  t3 := by kernel_rfl
  a3 := fun w => by kernel_rfl
  z3 := fun w => by kernel_rfl
  v3 := fun w => by kernel_rfl
  t4 := by kernel_rfl
  a4 := fun w => by kernel_rfl
  z4 := fun w => by kernel_rfl
  v4 := fun w => by kernel_rfl
  t5 := by kernel_rfl
  a5 := fun w => by kernel_rfl
  z5 := fun w => by kernel_rfl
  v5 := fun w => by kernel_rfl
  t9 := by kernel_rfl
  a9 := fun w => by kernel_rfl
  z9 := fun w => by kernel_rfl
  v9 := fun w => by kernel_rfl
  t22 := by kernel_rfl
  a22 := fun w => by kernel_rfl
  z22 := fun w => by kernel_rfl
  v22 := fun w => by kernel_rfl
  t25 := by kernel_rfl
  a25 := fun w => by kernel_rfl
  z25 := fun w => by kernel_rfl
  v25 := fun w => by kernel_rfl
  t39 := by kernel_rfl
  a39 := fun w => by kernel_rfl
  z39 := fun w => by kernel_rfl
  v39 := fun w => by kernel_rfl
  t45 := by kernel_rfl
  a45 := fun w => by kernel_rfl
  z45 := fun w => by kernel_rfl
  v45 := fun w => by kernel_rfl
  t46 := by kernel_rfl
  a46 := fun w => by kernel_rfl
  z46 := fun w => by kernel_rfl
  v46 := fun w => by kernel_rfl
  t50 := by kernel_rfl
  a50 := fun w => by kernel_rfl
  z50 := fun w => by kernel_rfl
  v50 := fun w => by kernel_rfl
  t53 := by kernel_rfl
  a53 := fun w => by kernel_rfl
  z53 := fun w => by kernel_rfl
  v53 := fun w => by kernel_rfl
  t55 := by kernel_rfl
  a55 := fun w => by kernel_rfl
  z55 := fun w => by kernel_rfl
  v55 := fun w => by kernel_rfl
  t66 := by kernel_rfl
  a66 := fun w => by kernel_rfl
  z66 := fun w => by kernel_rfl
  v66 := fun w => by kernel_rfl
  t70 := by kernel_rfl
  a70 := fun w => by kernel_rfl
  z70 := fun w => by kernel_rfl
  v70 := fun w => by kernel_rfl
  t76 := by kernel_rfl
  a76 := fun w => by kernel_rfl
  z76 := fun w => by kernel_rfl
  v76 := fun w => by kernel_rfl
  t77 := by kernel_rfl
  a77 := fun w => by kernel_rfl
  z77 := fun w => by kernel_rfl
  v77 := fun w => by kernel_rfl
end Go.Proofs.Ytfoeddmbhmfjcaa
/- log.All's comparison: by Owner, then by Index. -/
namespace Go.Proofs.Ytfoeddmbhmfjcaa
open Go.RowKit Go.Shelf
def cmpI (x y : Int) : Int := if x < y then -1 else if y < x then 1 else 0
def cmpK (a b : Kd) : Int := if cmpI a.1 b.1 ≠ 0 then cmpI a.1 b.1 else cmpI a.2 b.2
set_option maxRecDepth 100000 in
set_option maxHeartbeats 1000000 in
theorem isNaN_calls (x : Int) (w : World) : Calls Try.prog 84 #[.int .i64 x] w fun e w' => e = .returned (.bool false) ∧ w' = w := by
  go_enter Try.func84, Try.ntmps84
  go_wp2
  refine bodyPost_ret (results_tmp rfl _ _ _) rfl ?_
  simp
set_option maxRecDepth 100000 in
set_option maxHeartbeats 1000000 in
theorem compare_calls (x y : Int) (w : World) : Calls Try.prog 72 #[.int .i64 x, .int .i64 y] w fun e w' => e = .returned (.int .i64 (cmpI x y)) ∧ w' = w := by
  go_enter Try.func72, Try.ntmps72
  by_cases h1 : x < y
  · have e1 : decide (x < y) = true := by simpa using h1
    have hc := Lib.hid (show cmpI x y = -1 by rw [cmpI, if_pos h1])
    clear h1
    go_wp2_with (go_at_call 84; refine (isNaN_calls _ _).mono ?_; rintro e w' ⟨rfl, rfl⟩)
    refine bodyPost_ret (results_tmp rfl _ _ _) rfl ?_
    exact ⟨by rw [hc.out]; rfl, rfl⟩
  · have e1 : decide (x < y) = false := by simpa using h1
    by_cases h2 : y < x
    · have e2 : decide (y < x) = true := by simpa using h2
      have hc := Lib.hid (show cmpI x y = 1 by rw [cmpI, if_neg h1, if_pos h2])
      clear h1 h2
      go_wp2_with (go_at_call 84; refine (isNaN_calls _ _).mono ?_; rintro e w' ⟨rfl, rfl⟩)
      refine bodyPost_ret (results_tmp rfl _ _ _) rfl ?_
      exact ⟨by rw [hc.out]; rfl, rfl⟩
    · have e2 : decide (y < x) = false := by simpa using h2
      have hc := Lib.hid (show cmpI x y = 0 by rw [cmpI, if_neg h1, if_neg h2])
      clear h1 h2
      go_wp2_with (go_at_call 84; refine (isNaN_calls _ _).mono ?_; rintro e w' ⟨rfl, rfl⟩)
      refine bodyPost_ret (results_tmp rfl _ _ _) rfl ?_
      exact ⟨by rw [hc.out]; rfl, rfl⟩
set_option maxRecDepth 100000 in
set_option maxHeartbeats 1000000 in
theorem or_calls (x y : Int) (b c : Nat) (w : World) (h0 : w.cell? ⟨b, 0, none⟩ = some (.int .i64 x)) (h1 : w.cell? ⟨b, 1, none⟩ = some (.int .i64 y)) :
    Calls Try.prog 71 #[.slice (some ⟨b, 0, none⟩) 2 c] w fun e w' => e = .returned (.int .i64 (if x ≠ 0 then x else y)) ∧ w' = w := by
  have H0 := Lib.hid h0
  have H1 := Lib.hid h1
  clear h0 h1
  go_enter Try.func71, Try.ntmps71
  go_wp2
  go_loopw [8] (fun i wr => ∃ k : Nat, k ≤ 2 ∧ i = .int .i64 k ∧ Hid (wr = w) ∧ (k = 1 → x = 0) ∧ (k = 2 → x = 0 ∧ y = 0)) (fun i _ => 2 - (intOf i).toNat)
  case atStart => exact ⟨0, by omega, rfl, rfl, by omega, by omega⟩
  case round =>
    obtain ⟨k, hk, rfl, hw, hx, hy⟩ := hrel
    have hw' : wr = w := hw.out
    subst hw'
    clear hw
    have z0 := H0.out
    have z1 := H1.out
    rcases (show k = 0 ∨ k = 1 ∨ k = 2 by omega) with rfl | rfl | rfl
    · by_cases hz : x = 0
      · have hz' := Lib.hid hz
        have e1 : (x != 0) = false := by simp [hz]
        clear hx hy hz
        go_wp2
        go_roundw
        case rel => exact ⟨1, by omega, by simp, trivial, fun _ => hz'.out, by omega⟩
        case measure => simp [intOf]
      · have hz' := Lib.hid hz
        have e1 : (x != 0) = true := by simp [hz]
        clear hx hy hz
        go_wp2
        refine bodyPost_ret (results_tmp rfl _ _ _) rfl ?_
        exact ⟨rfl, rfl⟩
    · have hz' := Lib.hid (hx rfl)
      clear hx hy
      by_cases hz : y = 0
      · have hy' := Lib.hid hz
        have e1 : (y != 0) = false := by simp [hz]
        clear hz
        go_wp2
        go_roundw
        case rel => exact ⟨2, by omega, by simp, trivial, by omega, fun _ => ⟨hz'.out, hy'.out⟩⟩
        case measure => simp [intOf]
      · have e1 : (y != 0) = true := by simp [hz]
        clear hz
        go_wp2
        refine bodyPost_ret (results_tmp rfl _ _ _) rfl ?_
        exact ⟨rfl, rfl⟩
    · obtain ⟨hz', hy'⟩ := hy rfl
      have HZ := Lib.hid hz'
      have HY := Lib.hid hy'
      clear hx hy hz' hy'
      go_wp2
      refine bodyPost_ret (results_tmp rfl _ _ _) rfl ?_
      exact ⟨by rw [HY.out]; rfl, rfl⟩
theorem four_ad {w : World} {p0 p1 p2 p3 : Addr} {v0 v1 v2 v3 : Value} (o : Obj) (h : w.cell? p0 = some v0 ∧ w.cell? p1 = some v1 ∧ w.cell? p2 = some v2 ∧ w.cell? p3 = some v3) :
    (w.alloc o).drew.cell? p0 = some v0 ∧ (w.alloc o).drew.cell? p1 = some v1 ∧ (w.alloc o).drew.cell? p2 = some v2 ∧ (w.alloc o).drew.cell? p3 = some v3 := by
  have k : ∀ {p : Addr} {v : Value}, w.cell? p = some v → (w.alloc o).drew.cell? p = some v := fun {p v} h => (World.cell?_of_block (w := w) (w' := (w.alloc o).drew) (Below.heap_alloc w o _ (World.block_lt_of_cell? w _ h))).trans h
  exact ⟨k h.1, k h.2.1, k h.2.2.1, k h.2.2.2⟩
/-- a block's three cells -/
abbrev EntV := Int × Int × (Option Addr × Nat × Nat)
def encB (x : EntV) : List Value := [.int .i64 x.1, .int .i64 x.2.1, .slice x.2.2.1 x.2.2.2.1 x.2.2.2.2]
def kdE (x : EntV) : Kd := (x.1, x.2.1)
set_option maxRecDepth 100000 in
set_option maxHeartbeats 2000000 in
theorem cmp_calls (x y : EntV) (W : World) : Calls Try.prog 70 #[.agg (encB x).toArray, .agg (encB y).toArray] W fun e w' => e = .returned (.int .i64 (cmpK (kdE x) (kdE y))) ∧ ∃ q os', w' = Sort.grow (W.drewN q) os' := by
  obtain ⟨x1, x2, xa, xn, xc⟩ := x
  obtain ⟨y1, y2, ya, yn, yc⟩ := y
  simp only [encB, kdE]
  go_enter Try.func70, Try.ntmps70
  go_upto_region 1 with fail
  have hx : Hid (((W.alloc (.cells #[.int .i64 x1, .int .i64 x2, .slice xa xn xc] 57)).alloc (.cells #[.int .i64 y1, .int .i64 y2, .slice ya yn yc] 57)).heap[W.heap.size]? = some (.cells #[.int .i64 x1, .int .i64 x2, .slice xa xn xc] 57 (0, 0))) :=
    (Below.heap_alloc _ _ _ (by simp)).trans (heap_alloc_new W _)
  have hy : Hid (((W.alloc (.cells #[.int .i64 x1, .int .i64 x2, .slice xa xn xc] 57)).alloc (.cells #[.int .i64 y1, .int .i64 y2, .slice ya yn yc] 57)).heap[W.heap.size + 1]? = some (.cells #[.int .i64 y1, .int .i64 y2, .slice ya yn yc] 57 (0, 0))) := by
    have := heap_alloc_new (W.alloc (.cells #[.int .i64 x1, .int .i64 x2, .slice xa xn xc] 57)) (.cells #[.int .i64 y1, .int .i64 y2, .slice ya yn yc] 57)
    rwa [World.size_alloc] at this
  have hg : Hid (((W.alloc (.cells #[.int .i64 x1, .int .i64 x2, .slice xa xn xc] 57)).alloc (.cells #[.int .i64 y1, .int .i64 y2, .slice ya yn yc] 57)) = Sort.grow W #[.cells #[.int .i64 x1, .int .i64 x2, .slice xa xn xc] 57, .cells #[.int .i64 y1, .int .i64 y2, .slice ya yn yc] 57]) := by
    show _ = _
    rw [Sort.alloc_eq_grow, Sort.alloc_eq_grow, Sort.grow_grow]; rfl
  generalize (W.alloc (.cells #[.int .i64 x1, .int .i64 x2, .slice xa xn xc] 57)).alloc (.cells #[.int .i64 y1, .int .i64 y2, .slice ya yn yc] 57) = w2 at *
  have x0 := cell_of hx.out 0 rfl
  have x1' := cell_of hx.out 1 rfl
  have y0 := cell_of hy.out 0 rfl
  have y1' := cell_of hy.out 1 rfl
  have SX : Hid (_ ∧ _ ∧ _ ∧ _) := Lib.hid ⟨x0, x1', y0, y1'⟩
  have n0 : ((w2.alloc (.cells #[.int .i64 (cmpI x1 y1), .int .i64 (cmpI x2 y2)] 3)).drew).cell? ⟨w2.heap.size, 0, none⟩ = some (.int .i64 (cmpI x1 y1)) := cell_of (heap_alloc_new w2 (.cells #[.int .i64 (cmpI x1 y1), .int .i64 (cmpI x2 y2)] 3)) 0 rfl
  have n1 : ((w2.alloc (.cells #[.int .i64 (cmpI x1 y1), .int .i64 (cmpI x2 y2)] 3)).drew).cell? ⟨w2.heap.size, 1, none⟩ = some (.int .i64 (cmpI x2 y2)) := cell_of (heap_alloc_new w2 (.cells #[.int .i64 (cmpI x1 y1), .int .i64 (cmpI x2 y2)] 3)) 1 rfl
  have N0 := Lib.hid n0
  have N1 := Lib.hid n1
  have hor := or_calls (cmpI x1 y1) (cmpI x2 y2) w2.heap.size 2 _ n0 n1
  rw [show (if cmpI x1 y1 ≠ 0 then cmpI x1 y1 else cmpI x2 y2) = cmpK (x1, x2) (y1, y2) from rfl] at hor
  have HO := Lib.hid hor
  clear n0 n1 hor
  go_region_held3 (fun w' => w'.cell? ⟨W.heap.size, 0, none⟩ = some (.int .i64 x1) ∧ w'.cell? ⟨W.heap.size, 1, none⟩ = some (.int .i64 x2) ∧ w'.cell? ⟨W.heap.size + 1, 0, none⟩ = some (.int .i64 y1) ∧ w'.cell? ⟨W.heap.size + 1, 1, none⟩ = some (.int .i64 y2))
    (first | exact SX.out | exact four_ad _ SX.out)
    (first
     | (go_at_call 72; refine (compare_calls _ _ _).mono ?_; rintro e w3 ⟨rfl, rfl⟩)
     | (go_at_call 71; refine HO.out.mono ?_; rintro e w3 ⟨rfl, rfl⟩))
  all_goals
    go_wp2
    refine bodyPost_ret (results_tmp rfl _ _ _) rfl ?_
    refine ⟨rfl, 1, #[.cells #[.int .i64 x1, .int .i64 x2, .slice xa xn xc] 57, .cells #[.int .i64 y1, .int .i64 y2, .slice ya yn yc] 57, .cells #[.int .i64 (cmpI x1 y1), .int .i64 (cmpI x2 y2)] 3], ?_⟩
    rw [hg.out, Sort.alloc_eq_grow, Sort.grow_grow]; rfl
theorem cmp_lays (blk off size : Nat) (w : World) : CmpLays Try.prog 70 #[] encB 3 (fun x y => cmpK (kdE x) (kdE y)) blk off size w := fun m os dk _ x y => cmp_calls x y _
theorem ltK (x y : EntV) : ltOf (fun x y => cmpK (kdE x) (kdE y)) x y = decide (x.1 < y.1 ∨ x.1 = y.1 ∧ x.2.1 < y.2.1) := by
  unfold ltOf cmpK cmpI kdE
  simp only
  by_cases h1 : x.1 < y.1
  · simp [h1]
  · by_cases h2 : y.1 < x.1
    · have : ¬ x.1 = y.1 := by omega
      simp [h1, h2, this]
    · have : x.1 = y.1 := by omega
      by_cases h3 : x.2.1 < y.2.1
      · simp [this, h3]
      · by_cases h4 : y.2.1 < x.2.1 <;> simp [this, h3, h4]
theorem swoK : Sort.SWO (ltOf fun (x y : EntV) => cmpK (kdE x) (kdE y)) where
  irrefl x := by rw [ltK]; simp
  trans x y z h1 h2 := by rw [ltK] at *; simp at *; omega
  ntrans x y z h1 h2 := by rw [ltK] at *; simp at *; omega
end Go.Proofs.Ytfoeddmbhmfjcaa
/- log.All: what there is, sorted; octets between the two ways to speak. -/
namespace Go.Proofs.Ytfoeddmbhmfjcaa
open Go.RowKit
set_option maxRecDepth 100000
def neK (s : St) (k : Kd) : Bool := decide (((versOf s).ver k).data ≠ [])
def mkB (s : St) (k : Kd) : Blk := ⟨k.1, k.2, ((versOf s).ver k).data⟩
def kLe (a b : Kd) : Bool := decide (a.1 < b.1 ∨ a.1 = b.1 ∧ a.2 ≤ b.2)
/-- all kinds that are there, in order -/
def allK (s : St) : List Kd := ((versOf s).keys.filter (neK s)).mergeSort kLe
def allL (s : St) : List Blk := if chk s = true then (allK s).map (mkB s) else []
theorem okBytes_rd {w : World} {P : Nat → Prop} {A : Option Addr} {c : Nat} {l : List Int} (h : RdS (Ty.int .u8) 1 w P A c l) : okBytes l := by
  refine ⟨h.2.1, fun x hx => ?_⟩
  obtain ⟨i, hi⟩ := List.getElem?_of_mem hx
  obtain ⟨_, _, _, _, _, hw⟩ := h.intAt hi
  exact hw
theorem vr_bytes {c : Cx} {fr : Bool} {P : Nat → Prop} {A : Option Addr} {k : Nat} {l : List Int} (h : RdS (Ty.int .u8) 1 c.w P A k l) (hP : ∀ b, P b → c.ok fr b) : VR c (fB fr l) (.slice A l.length k) := by
  unfold fB
  rw [VR]
  refine ⟨A, k, rfl, h.1, fun hne => ?_⟩
  obtain ⟨b, off, rfl, hb, hc⟩ := h.2.2 (by omega)
  have hcell : ∀ (i : Nat) x, l[i]? = some x → c.w.cell? ⟨b, off + i, none⟩ = some (.int .u8 x) := fun i x hx => by
    obtain ⟨cs, ⟨rfl, _⟩, hcc⟩ := hc i x hx
    have := hcc 0 _ rfl
    simpa [Ty.int] using this
  have hlt : b < c.w.heap.size := by
    have := hcell 0 _ (List.getElem?_eq_getElem (show 0 < l.length by omega))
    exact lt_of_cell this
  refine ⟨b, off, rfl, hlt, hP b hb, VRm_iff.2 fun j a hj => ?_⟩
  unfold eB at hj
  rw [List.getElem?_map, Option.map_eq_some_iff] at hj
  obtain ⟨x, hx, rfl⟩ := hj
  exact ⟨_, hcell j x hx, rfl, rfl⟩
theorem bytesClone_A (fr : Bool) (l : List Int) (nb : Nat) (hok : okBytes l) : ASound Try.prog 64 [fB fr l] nb (.ret (fB true l) []) := by
  refine asound_of (by rfl) fun c us hr ha => ?_
  obtain ⟨u, rfl, hv⟩ := vrt1 ha
  have h1 : VRl c [fB fr l] [u] := by
    refine ⟨u, [], rfl, ?_, hv, rfl⟩
    unfold fB at hv
    rw [VR] at hv
    obtain ⟨A, k, rfl, _⟩ := hv
    rfl
  obtain ⟨A, k, e, h⟩ := rdS_of (enc_bytes.fwd hok h1)
  cases e
  refine (bytesClone_calls A k l c.w h).mono ?_
  rintro e w' ⟨v, rfl, q, hb⟩
  refine ⟨v, rfl, hb, ?_⟩
  have := mk_row (enc_int .u8) hr (Ty.RowI_flat (QI := fun _ _ => False) (fun _ _ _ _ _ _ h => h) q) (fun _ _ _ h _ => h.elim)
  rw [← eB_flat] at this
  exact this
end Go.Proofs.Ytfoeddmbhmfjcaa
/- log.All, the loop: what stays from round to round. -/
namespace Go.Proofs.Ytfoeddmbhmfjcaa
open Go.RowKit
set_option maxRecDepth 100000
abbrev S_all (acc : List Blk) (r : Nat) : ASt := ⟨envOf [(5, .os 0 0 acc.length 3), (15, .v (ptr r))], heapOf [(0, .row true 57 (eBlks true acc))], 1⟩
structure AllI (s : St) (w0 : World) (vb r B : Nat) (X : Nat → Prop) (pt : Kd → Nat) (n : Nat) (a : Act) (c : Cx) (acc : List Blk) (todo : Kd → Bool) : Prop where
  B : c.B = B
  X : c.X = X
  Y : ∀ b, c.Y b = .no
  T : ∀ b, c.T b → w0.heap.size ≤ b
  rel : RelR 43 1 No c (S_all acc r) a
  gr : w0.grownBy c.w (some r)
  it : HasIter enc2 c.w vb r ((versOf s).keys.map fun k => (k, ptr (pt k))) todo n
  perm : acc.Perm (((versOf s).keys.filter fun k => !todo k && neK s k).map (mkB s))
theorem grown_on {w0 : World} {c d : Cx} {r : Nat} (h : w0.grownBy c.w (some r)) (hT : ∀ b, c.T b → w0.heap.size ≤ b) (hY : ∀ b, c.Y b = .no) (g : Grow c d) : w0.grownBy d.w (some r) ∧ (∀ b, d.T b → w0.heap.size ≤ b) ∧ ∀ b, b < w0.heap.size → d.w.heap[b]? = c.w.heap[b]? := by
  have stay : ∀ b, b < w0.heap.size → d.w.heap[b]? = c.w.heap[b]? := fun b hb => g.stay b (Nat.lt_of_lt_of_le hb h.size) (fun ht => by have := hT b ht; omega) (fun _ => hY b)
  refine ⟨⟨g.osE.trans h.os, g.tape.trans h.tape, g.out.trans h.output, Nat.le_trans h.size g.size, fun b hb hne => (stay b hb).trans (h.block b hb hne)⟩, fun b hb => ?_, stay⟩
  rcases g.held b hb with h1 | h1
  · exact hT b h1
  · exact Nat.le_trans h.size h1
theorem grown_trans {w0 w1 w2 : World} {row : Option Nat} (h : w0.grownBy w1 row) (k : w1.grownBy w2 row) : w0.grownBy w2 row :=
  ⟨k.os.trans h.os, k.tape.trans h.tape, k.output.trans h.output, Nat.le_trans h.size k.size, fun b hb hne => (k.block b (Nat.lt_of_lt_of_le hb h.size) hne).trans (h.block b hb hne)⟩
theorem perm_step (s : St) (keys : List Kd) (hn : keys.Nodup) {todo : Kd → Bool} {k : Kd} (hk : k ∈ keys) (ht : todo k = true) {acc : List Blk} (h : acc.Perm ((keys.filter fun k => !todo k && neK s k).map (mkB s))) :
    (if neK s k = true then acc ++ [mkB s k] else acc).Perm ((keys.filter fun j => !(todo j && !decide (j = k)) && neK s j).map (mkB s)) := by
  have key : (keys.filter fun j => !(todo j && !decide (j = k)) && neK s j).Perm (if neK s k = true then k :: keys.filter (fun k => !todo k && neK s k) else keys.filter fun k => !todo k && neK s k) := by
    clear h
    induction keys with
    | nil => simp at hk
    | cons x l ih =>
      rw [List.nodup_cons] at hn
      rw [List.filter_cons, List.filter_cons]
      rcases List.mem_cons.1 hk with e | e
      · subst e
        have hl : (l.filter fun j => !(todo j && !decide (j = k)) && neK s j) = l.filter fun k => !todo k && neK s k := by
          apply List.filter_congr
          intro j hj
          have : ¬ j = k := fun e => hn.1 (e ▸ hj)
          simp [this]
        rw [hl]
        simp only [ht]
        cases neK s k <;> simp
      · have hx : ¬ x = k := fun e1 => hn.1 (e1 ▸ e)
        have ih' := ih hn.2 e
        simp only [hx, decide_false, Bool.not_false, Bool.and_true]
        cases hq : (!todo x && neK s x) with
        | false => simpa using ih'
        | true =>
          simp only [if_true]
          split at ih'
          · rename_i hne
            rw [if_pos hne]
            exact (ih'.cons x).trans (List.Perm.swap k x _)
          · rename_i hne
            rw [if_neg hne]
            exact ih'.cons x
  have := key.map (mkB s)
  split
  · rename_i hne
    rw [if_pos hne, List.map_cons] at this
    exact ((List.perm_append_comm (l₁ := acc) (l₂ := [mkB s k])).trans (h.cons _)).trans this.symm
  · rename_i hne
    rw [if_neg hne] at this
    exact h.trans this.symm
end Go.Proofs.Ytfoeddmbhmfjcaa
/- log.All: its sorting. -/
namespace Go.Proofs.Ytfoeddmbhmfjcaa
open Go.RowKit Go.Shelf Go.Sort
set_option maxRecDepth 100000
theorem perm_map {α β : Type} (f : α → β) : ∀ {m m' : List β}, m.Perm m' → ∀ l : List α, l.map f = m → ∃ l' : List α, l'.Perm l ∧ l'.map f = m' := by
  intro m m' h
  induction h with
  | nil => exact fun l hl => ⟨l, .refl l, hl⟩
  | cons x _ ih =>
    intro l hl
    cases l with
    | nil => cases hl
    | cons a l =>
      simp only [List.map_cons, List.cons.injEq] at hl
      obtain ⟨l', h1, h2⟩ := ih l hl.2
      exact ⟨a :: l', h1.cons a, by simp [hl.1, h2]⟩
  | swap x y r =>
    intro l hl
    match l, hl with
    | a :: b :: l, hl =>
      simp only [List.map_cons, List.cons.injEq] at hl
      exact ⟨b :: a :: l, .swap a b l, by simp [hl.1, hl.2.1, hl.2.2]⟩
  | trans _ _ ih1 ih2 =>
    intro l hl
    obtain ⟨l1, h1, h2⟩ := ih1 l hl
    obtain ⟨l2, h3, h4⟩ := ih2 l1 h2
    exact ⟨l2, h3.trans h1, h4⟩
/-- a block's cells, as they lie -/
def EntIs (c : Cx) (e : EntV) (x : Blk) : Prop := kdE e = kindOf x ∧ e.2.2.2.1 = x.data.length ∧ VR c (fB true x.data) (.slice e.2.2.1 e.2.2.2.1 e.2.2.2.2)
theorem ent_of {c : Cx} {cs : Array Value} {acc : List Blk} {i : Nat} {x : Blk} (h : ∀ (j : Nat) a, (eBlks true acc)[j]? = some a → ∃ u, cs[j]? = some u ∧ u.oneCell' = true ∧ VR c a u) (hx : acc[i]? = some x) :
    ∃ e : EntV, EntIs c e x ∧ cs[i * 3]? = some (.int .i64 e.1) ∧ cs[i * 3 + 1]? = some (.int .i64 e.2.1) ∧ cs[i * 3 + 2]? = some (.slice e.2.2.1 e.2.2.2.1 e.2.2.2.2) := by
  obtain ⟨g0, g1, _, g2⟩ := get_Blks3 (fr := true) hx
  obtain ⟨u0, a0, _, v0⟩ := h _ _ g0
  obtain ⟨u1, a1, _, v1⟩ := h _ _ g1
  obtain ⟨u2, a2, _, v2⟩ := h _ _ g2
  rw [VR] at v0 v1
  subst v0; subst v1
  have v2' := v2
  unfold fB at v2'
  rw [VR] at v2'
  obtain ⟨A, k, rfl, _⟩ := v2'
  exact ⟨(x.own, x.idx, A, x.data.length, k), ⟨rfl, rfl, v2⟩, a0, a1, a2⟩
theorem sort_cells {w : World} {blk : Nat} {cs : Array Value} {e : TypeId} {fl : Nat × Nat} (hb : w.heap[blk]? = some (.cells cs e fl)) (n : Nat) (d : Array EntV) (os : Array Obj) :
    (sortWorldK encB 3 w blk 0 n d os).heap[blk]? = some (.cells (putCells id 0 (flatK encB 3 d) cs) e fl) ∧ ∀ b, b < w.heap.size → b ≠ blk → (sortWorldK encB 3 w blk 0 n d os).heap[b]? = w.heap[b]? := by
  have hlt := lt_of_heap hb
  have e1 : (sortWorldK encB 3 w blk 0 n d os).heap = (w.heap.modify blk (onCells (putCells id 0 (flatK encB 3 d)))) ++ os := rfl
  constructor
  · rw [e1, Array.getElem?_append_left (by simpa using hlt), Array.getElem?_modify, if_pos rfl, hb]; rfl
  · intro b h1 h2
    rw [e1, Array.getElem?_append_left (by simpa using h1), Array.getElem?_modify, if_neg (fun e => h2 e.symm)]
set_option maxHeartbeats 1000000 in
theorem sort_step {c : Cx} {acc : List Blk} {u : Value} (hr : HR c) (hσ : c.σ = heapOf [(0, .row true 57 (eBlks true acc))]) (hu : VR c (.os 0 0 acc.length 3) u) (hlen : acc.length < 4611686018427387904) :
    Calls Try.prog 69 #[u, .func (.func 70) #[] #[]] c.w fun e w' => e = .returned (.tuple #[]) ∧ ∃ (d : Cx) (L : List Blk), d.w = w' ∧ d.B = c.B ∧ d.X = c.X ∧ d.Y = c.Y ∧ HR d ∧ d.σ = heapOf [] ∧ (∀ id, d.φ id = none) ∧
      VR d (fBlks true L) u ∧ L.Perm acc ∧ L.Pairwise (fun x y => ¬ (y.own < x.own ∨ y.own = x.own ∧ y.idx < x.idx)) ∧ ∀ n, n ≤ c.w.heap.size → (∀ b, c.T b → n ≤ b) → Below n c.w w' := by
  have hs0 : c.σ 0 = some (.row true 57 (eBlks true acc)) := by rw [hσ]; rfl
  have hv := hu
  rw [VR] at hv
  obtain ⟨A, k, rfl, hk, hcase⟩ := hv
  by_cases hnil : acc = []
  · subst hnil
    have h := AnyF.slices_SortFunc_none sortLaid A k (.func (.func 70) #[] #[]) c.w
    refine Calls.mono (show Calls Try.prog 69 _ _ _ from h) ?_
    rintro e w' ⟨rfl, rfl⟩
    refine ⟨rfl, ⟨c.w, c.B, fun _ => none, heapOf [], c.X, c.Y⟩, [], rfl, rfl, rfl, rfl, ⟨fun id y e cells h => (by cases h), fun id id' b h => absurd rfl h, hr.base, hr.xlt⟩, rfl, fun _ => rfl, ?_, .refl _, .nil, fun n hn _ => Below.refl _ _⟩
    unfold fBlks
    rw [VR]
    exact ⟨A, k, rfl, Nat.zero_le _, fun h => absurd rfl h⟩
  · have hpos : 0 < acc.length := List.length_pos_iff.2 hnil
    obtain ⟨b, hφ, rfl, _⟩ : ∃ b, c.φ 0 = some (some b) ∧ A = some ⟨b, 0, none⟩ ∧ True := by
      rcases hcase with ⟨_, h⟩ | ⟨b, h1, h2, _⟩
      · omega
      · exact ⟨b, h1, h2, trivial⟩
    obtain ⟨cs, hb, hle, hcs, _⟩ := hr.cells hs0 hφ
    have hby : c.B ≤ b ∧ ¬ c.X b := by
      rcases hr.row 0 _ _ _ hs0 with ⟨h, _⟩ | ⟨b', cs', h1, _, h3, _⟩
      · rw [hφ] at h; cases h
      · rw [hφ] at h1; cases h1; exact ⟨h3.1 rfl, h3.2⟩
    have hblt := lt_of_heap hb
    have hl3 : (eBlks true acc).length = acc.length * 3 := len_Blks ..
    obtain ⟨es, hel, hes⟩ := list_choose (Q := fun i (e : EntV) => ∃ x, acc[i]? = some x ∧ EntIs c e x ∧ cs[i * 3]? = some (.int .i64 e.1) ∧ cs[i * 3 + 1]? = some (.int .i64 e.2.1) ∧ cs[i * 3 + 2]? = some (.slice e.2.2.1 e.2.2.2.1 e.2.2.2.2)) acc.length (fun i hi => by
      obtain ⟨x, hx⟩ : ∃ x, acc[i]? = some x := ⟨_, List.getElem?_eq_getElem hi⟩
      obtain ⟨e, h1, h2⟩ := ent_of hcs hx
      exact ⟨e, x, hx, h1, h2⟩)
    have hds : es.toArray.size = acc.length := by simp [hel]
    have entAt : ∀ (i : Nat) (e : EntV) (q : Nat), es[i]? = some e → q < 3 → cs[i * 3 + q]? = some ((encB e)[q]!) := by
      intro i e q he hq
      obtain ⟨x, _, _, h0, h1, h2⟩ := hes i e he
      rcases (show q = 0 ∨ q = 1 ∨ q = 2 by omega) with rfl | rfl | rfl
      · exact h0
      · exact h1
      · exact h2
    have hH : HoldsK encB 3 c.w b 0 es.toArray := by
      intro j hj
      rw [size_flatK, hds] at hj
      have hi : j / 3 < es.length := by omega
      obtain ⟨e, he⟩ : ∃ e, es[j / 3]? = some e := ⟨_, List.getElem?_eq_getElem hi⟩
      have hc := entAt (j / 3) e (j % 3) he (Nat.mod_lt _ (by omega))
      have hg : es.toArray[j / 3]! = e := by
        rw [getElem!_pos es.toArray (j / 3) (by simpa using hi)]
        rw [List.getElem?_eq_getElem hi] at he
        simpa using he
      refine ⟨?_, frozen_of hb _⟩
      rw [get_flatK _ _ _ _ (by rw [hds]; exact hj), hg]
      rw [show j / 3 * 3 + j % 3 = j from by omega] at hc
      rw [Nat.zero_add]
      exact cell_of hb j hc
    have h := AnyQ.slices_SortFunc sortLaid 3 (fun w => by kernel_rfl) (fun w => by kernel_rfl) encB (fun x => rfl) (fun x v hv => by simp [encB] at hv; rcases hv with rfl | rfl | rfl <;> rfl) (fun x y => cmpK (kdE x) (kdE y)) swoK 70 #[] b 0 k es.toArray c.w
      (enters_of Try.func70 (by kernel_rfl) rfl) (cmp_lays b 0 _ c.w) hH hblt (by rw [hds]; exact hlen)
    rw [hds] at h
    refine Calls.mono (show Calls Try.prog 69 _ _ _ from h) ?_
    rintro e w' ⟨rfl, d', n, os, hp, hsrt, rfl⟩
    refine ⟨rfl, ?_⟩
    obtain ⟨hp1, _, hp3⟩ := hp
    have hd's : d'.size = acc.length := by rw [hp1, hds]
    have hpe : d'.toList.Perm es := by
      rw [Array.extract_eq_self_of_le (by omega), Array.extract_eq_self_of_le (by omega)] at hp3
      exact hp3
    have hz1 : (es.zip acc).map (·.1) = es := List.map_fst_zip (by omega)
    have hz2 : (es.zip acc).map (·.2) = acc := List.map_snd_zip (by omega)
    obtain ⟨ps, hps, hpf⟩ := perm_map Prod.fst hpe.symm (es.zip acc) hz1
    have hent : ∀ p ∈ ps, EntIs c p.1 p.2 := by
      intro p hp
      have hp' := hps.mem_iff.1 hp
      obtain ⟨i, hi⟩ := List.getElem?_of_mem hp'
      rw [List.getElem?_zip_eq_some] at hi
      obtain ⟨x, hx, h1, _⟩ := hes i p.1 hi.1
      rw [hi.2] at hx
      cases hx
      exact h1
    have hLp : (ps.map (·.2)).Perm acc := by have := hps.map (·.2); rwa [hz2] at this
    have hLl : (ps.map (·.2)).length = acc.length := hLp.length_eq
    have hpl : ps.length = acc.length := by simpa using hLl
    have at_ : ∀ (i : Nat) p, ps[i]? = some p → d'[i]! = p.1 := by
      intro i p hi
      have h1 : d'.toList[i]? = some p.1 := by rw [← hpf, List.getElem?_map, hi]; rfl
      have hil := (List.getElem?_eq_some_iff.1 h1).1
      rw [getElem!_pos d' i (by simpa using hil)]
      rw [List.getElem?_eq_getElem hil] at h1
      simpa using h1
    obtain ⟨hnb, hoth⟩ := sort_cells hb n d' os
    have hTb : c.T b := ⟨0, _, hs0, hφ⟩
    generalize hw' : sortWorldK encB 3 c.w b 0 n d' os = w' at *
    have hsz : c.w.heap.size ≤ w'.heap.size := by rw [← hw']; exact size_sortWorldK_c _ _ _ _ _ _ _ _
    have hH' : HoldsK encB 3 w' b 0 d' := by rw [← hw']; exact holdsK_sortWorldK_c _ _ _ _ _ es.toArray d' n os hH hblt hp1
    have ho : w'.output = c.w.output ∧ w'.os = c.w.os ∧ w'.tape = c.w.tape := by rw [← hw']; exact ⟨rfl, rfl, rfl⟩
    have gr : Grow c ⟨w', c.B, c.φ, heapOf [], c.X, c.Y⟩ := by
      refine Still.grow ⟨rfl, rfl, rfl, ho.1, ho.2.1, ho.2.2, hsz, fun q hq hqt => hoth q hq (fun e => hqt (e ▸ hTb)), ?_, fun q cs' e' f hq => ?_⟩
      · rintro q ⟨id, o, h1, _⟩; cases h1
      · by_cases e1 : q = b
        · subst e1
          rw [hb] at hq
          cases hq
          exact ⟨_, _, hnb, by simp [putCells]⟩
        · exact ⟨cs', f, (hoth q (lt_of_heap hq) e1).trans hq, rfl⟩
    have vr : ∀ {a : AV} {u : Value}, Nw a → VR c a u → VR ⟨w', c.B, fun _ => none, heapOf [], c.X, c.Y⟩ a u := fun hn hv => by
      refine VR.nw (c := ⟨w', c.B, c.φ, heapOf [], c.X, c.Y⟩) (d := ⟨w', c.B, fun _ => none, heapOf [], c.X, c.Y⟩) rfl (fun fr q _ hk => ⟨hk.1, ?_, hk.2.2⟩) hn (hv.mono gr (fun _ _ h => h))
      rintro ⟨id, o, h1, _⟩; cases h1
    refine ⟨⟨w', c.B, fun _ => none, heapOf [], c.X, c.Y⟩, ps.map (·.2), rfl, rfl, rfl, rfl, ⟨fun id y e cells h => (by cases h), fun id id' b h => absurd rfl h, Nat.le_trans hr.base hsz, fun q hq => Nat.lt_of_lt_of_le (hr.xlt q hq) hsz⟩, rfl, fun _ => rfl, ?_, hLp, ?_, fun m hm hT => ⟨ho.2.1, ho.2.2, ho.1, hsz, fun q hq => hoth q (by omega) (fun e => by have := hT b hTb; omega)⟩⟩
    · unfold fBlks
      rw [hLl, VR]
      refine ⟨_, k, rfl, hk, fun _ => ⟨b, 0, rfl, Nat.lt_of_lt_of_le hblt hsz, ⟨fun _ => hby.1, ?_, hby.2⟩, VRm_iff.2 fun j a hj => ?_⟩⟩
      · rintro ⟨id, o, h1, _⟩; cases h1
      · have hjl : j < acc.length * 3 := by
          have := (List.getElem?_eq_some_iff.1 hj).1
          rwa [len_Blks, hLl] at this
        obtain ⟨p, hp⟩ : ∃ p, ps[j / 3]? = some p := ⟨_, List.getElem?_eq_getElem (by omega)⟩
        have hx : (ps.map (·.2))[j / 3]? = some p.2 := by rw [List.getElem?_map, hp]; rfl
        obtain ⟨b0, b1, _, b2⟩ := get_Blks3 (fr := true) hx
        obtain ⟨q1, q2, q3⟩ := hent p (List.mem_of_getElem? hp)
        have hcell := (hH' j (by rw [size_flatK, hd's]; exact hjl)).1
        rw [get_flatK _ _ _ _ (by rw [hd's]; exact hjl), at_ _ _ hp] at hcell
        have hj3 : j / 3 * 3 + j % 3 = j := by omega
        rcases (show j % 3 = 0 ∨ j % 3 = 1 ∨ j % 3 = 2 by omega) with e0 | e0 | e0
        · rw [e0] at hcell hj3
          rw [show j = j / 3 * 3 from by omega, b0] at hj
          cases hj
          refine ⟨_, hcell, rfl, ?_⟩
          show Value.int .i64 p.1.1 = .int .i64 p.2.own
          rw [show p.1.1 = p.2.own from congrArg Prod.fst q1]
        · rw [e0] at hcell hj3
          rw [show j = j / 3 * 3 + 1 from by omega, b1] at hj
          cases hj
          refine ⟨_, hcell, rfl, ?_⟩
          show Value.int .i64 p.1.2.1 = .int .i64 p.2.idx
          rw [show p.1.2.1 = p.2.idx from congrArg Prod.snd q1]
        · rw [e0] at hcell hj3
          rw [show j = j / 3 * 3 + 2 from by omega, b2] at hj
          cases hj
          exact ⟨_, hcell, rfl, vr (by unfold fB eB; rw [Nw, NwL_iff]; intro a ha; obtain ⟨_, _, rfl⟩ := List.mem_map.1 ha; trivial) q3⟩
    · rw [List.pairwise_iff_getElem]
      intro i j hi hj hij
      simp only [List.length_map] at hi hj
      have hs := hsrt i j (Nat.zero_le _) hij (by omega)
      rw [at_ i _ (List.getElem?_eq_getElem hi), at_ j _ (List.getElem?_eq_getElem hj), ltK] at hs
      obtain ⟨qi, _⟩ := hent _ (List.getElem_mem hi)
      obtain ⟨qj, _⟩ := hent _ (List.getElem_mem hj)
      have i1 := congrArg Prod.fst qi
      have i2 := congrArg Prod.snd qi
      have j1 := congrArg Prod.fst qj
      have j2 := congrArg Prod.snd qj
      simp only [kdE, kindOf] at i1 i2 j1 j2
      simp only [List.getElem_map]
      rw [i1, i2, j1, j2] at hs
      simpa using hs
end Go.Proofs.Ytfoeddmbhmfjcaa
/- log.All: what it tells is all there is, in order. -/
namespace Go.Proofs.Ytfoeddmbhmfjcaa
open Go.RowKit
theorem len_keyAdd (l : List Kd) (k : Kd) : (keyAdd l k).length ≤ l.length + 1 := by unfold keyAdd; split <;> simp
theorem len_noteN (seq : Int) (l : List Blk) (q : Vers) : ∀ k, (noteN seq l q k).keys.length ≤ q.keys.length + k
  | 0 => Nat.le_refl _
  | k + 1 => by
    have ih := len_noteN seq l q k
    simp only [noteN]
    split
    · rename_i b _
      have := len_keyAdd (noteN seq l q k).keys (kindOf b)
      exact Nat.le_trans this (by omega)
    · omega
theorem len_segsN (s : St) (h8 : ∀ x ∈ s.segs, x.blocks.length ≤ 8) : ∀ k, (segsN s k).keys.length ≤ 8 * k
  | 0 => Nat.le_refl _
  | k + 1 => by
    have ih := len_segsN s h8 k
    simp only [segsN]
    split
    · rename_i x hx
      have := len_noteN x.seq x.blocks (segsN s k) x.blocks.length
      have := h8 x (List.mem_of_getElem? hx)
      omega
    · omega
theorem len_keys (s : St) (g : Good s) : (versOf s).keys.length ≤ 520 := by
  have h1 := len_noteN s.next s.opn (segsN s s.segs.length) s.opn.length
  have h2 := len_segsN s g.blocks8 s.segs.length
  have h3 := g.n64
  have h4 := g.opn8
  unfold versOf
  omega
theorem all_sorted {s : St} {acc L : List Blk} (h1 : L.Perm acc) (h2 : acc.Perm (((versOf s).keys.filter (neK s)).map (mkB s))) (h3 : L.Pairwise fun x y => ¬ (y.own < x.own ∨ y.own = x.own ∧ y.idx < x.idx)) : L = (allK s).map (mkB s) := by
  have hp : L.Perm ((allK s).map (mkB s)) := (h1.trans h2).trans ((List.mergeSort_perm _ kLe).symm.map (mkB s))
  refine hp.eq_of_pairwise (le := fun x y => ¬ (y.own < x.own ∨ y.own = x.own ∧ y.idx < x.idx)) (fun x y hx hy a1 a2 => ?_) h3 ?_
  · obtain ⟨kx, _, rfl⟩ := List.mem_map.1 (hp.mem_iff.1 hx)
    obtain ⟨ky, _, rfl⟩ := List.mem_map.1 hy
    simp only [mkB] at a1 a2
    have : kx = ky := Prod.ext (by omega) (by omega)
    rw [this]
  · rw [List.pairwise_map]
    refine (List.pairwise_mergeSort (le := kLe) (fun a b c h1 h2 => ?_) (fun a b => ?_) _).imp ?_
    · simp only [kLe, decide_eq_true_eq] at *; omega
    · simp only [kLe, Bool.or_eq_true, decide_eq_true_eq]; omega
    · intro a b h
      simp only [kLe, decide_eq_true_eq] at h
      simp only [mkB]; omega
theorem neK_len (s : St) (k : Kd) : decide (0 < ((versOf s).ver k).data.length) = neK s k := by
  unfold neK
  simp [List.length_pos_iff]
end Go.Proofs.Ytfoeddmbhmfjcaa
/- log.All, up to its loop. -/
namespace Go.Proofs.Ytfoeddmbhmfjcaa
open Go.RowKit
set_option maxRecDepth 100000
def rgA_0 : AC :=
(.reg false [⟨some 1, .box 36 (.tmp 0), none, [0], []⟩,
    ⟨some 2, .mv (.const (.slice none 0 0)), none, [], []⟩,
    ⟨some 3, .mv (.const (.int .i64 (0))), none, [], []⟩] [1, 2, 3])
def rgA_1 : AC :=
(.reg false [⟨some 8, .load true 4 (.tmp 1), none, [1], []⟩,
    ⟨some 9, .call 46 [(.tmp 8)], none, [8], []⟩,
    ⟨some 4, .mv (.tmp 9), none, [9], []⟩] [1, 2, 3, 4])
def rgA_2 : AC :=
(.reg false [⟨some 10, .mv (.tmp 4), none, [4], []⟩,
    ⟨some 11, .bin .neq (.tmp 10) (.const (.int .i64 (0))), none, [10], []⟩] [1, 2, 3, 4, 11])
def rgA_3 : AC :=
(.reg false [⟨some 12, .mv (.tmp 4), none, [4], []⟩,
    ⟨some 2, .mv (.const (.slice none 0 0)), none, [], []⟩,
    ⟨some 3, .mv (.tmp 12), none, [12], []⟩] [2, 3])
def rgA_4 : AC :=
(.reg false [⟨some 5, .mv (.const (.slice none 0 0)), none, [], []⟩] [1, 5])
def rgA_8 : AC :=
(.reg false [⟨some 21, .mv (.tmp 7), none, [7], []⟩,
    ⟨some 22, .nilc (.tmp 21), none, [21], []⟩,
    ⟨some 23, .foff 2 (.tmp 22), none, [22], []⟩,
    ⟨some 24, .load false 1 (.tmp 23), none, [23], []⟩,
    ⟨some 25, .len false (.tmp 24), none, [24], []⟩,
    ⟨some 26, .bin .gtr (.tmp 25) (.const (.int .i64 (0))), none, [25], []⟩] [5, 6, 7, 15, 26])
def rgA_9 : AC :=
(.reg true [⟨some 27, .mv (.tmp 5), none, [5], []⟩,
    ⟨some 28, .foff 0 (.tmp 6), none, [6], []⟩,
    ⟨some 29, .load false 1 (.tmp 28), none, [28], [1]⟩,
    ⟨some 30, .foff 1 (.tmp 6), none, [6], []⟩,
    ⟨some 31, .load false 1 (.tmp 30), none, [30], [3]⟩,
    ⟨some 32, .mv (.tmp 7), none, [7], []⟩,
    ⟨some 33, .nilc (.tmp 32), none, [32], [5]⟩,
    ⟨some 34, .foff 2 (.tmp 33), none, [33], [6, 5]⟩,
    ⟨some 35, .load false 1 (.tmp 34), none, [34], [7, 6, 5]⟩,
    ⟨some 36, .call 64 [(.tmp 35)], none, [35], [8, 7, 6, 5]⟩,
    ⟨some 37, .build [(.int .i64 (0)), (.int .i64 (0)), (.slice none 0 0)] [(0, 1, (.tmp 29)), (1, 1, (.tmp 31)), (2, 1, (.tmp 36))], none, [29, 31, 36], [2, 4, 9, 1, 3, 8, 7, 6, 5]⟩,
    ⟨some 38, .bslice 57 3 1 [(.int .i64 (0)), (.int .i64 (0)), (.slice none 0 0)] [(0, 3, (.tmp 37))], none, [37], [10, 2, 4, 9, 1, 3, 8, 7, 6, 5]⟩,
    ⟨some 39, .append 57 3 40 (.tmp 27) (.tmp 38), none, [27, 38], [0, 11, 9, 10, 2, 4, 1, 3, 8, 7, 6, 5]⟩,
    ⟨some 5, .mv (.tmp 39), none, [39], [12, 0, 1, 2, 3, 4, 5, 6, 7, 8, 9, 10, 11]⟩] [5, 15])
def rgA_11 : AC :=
(.reg false [⟨some 42, .mv (.tmp 5), none, [5], []⟩,
    ⟨some 2, .mv (.tmp 42), none, [42], []⟩,
    ⟨some 3, .mv (.const (.int .i64 (0))), none, [], []⟩] [2, 3])

abbrev A_all0 (fr : Bool) (s : St) : ASt := ⟨envOf [(1, .op 0 0), (2, .v (.slice none 0 0)), (3, .v (.int .i64 0))], heapOf [(0, stRow 36 fr s)], 1⟩
abbrev A_all1 (fr : Bool) (s : St) : ASt := ⟨envOf [(1, .op 0 0)], heapOf [(0, stRow 36 fr s)], 1⟩
abbrev A_all4 (fr : Bool) (s : St) : ASt := ⟨envOf [(1, .op 0 0), (5, .v (.slice none 0 0))], heapOf [(0, stRow 36 fr s)], 1⟩
abbrev S_lp (acc : List Blk) (r : Nat) : ASt := ⟨envOf [(5, .os 0 0 acc.length 3), (15, .v (ptr r))], heapOf [(0, .row true 57 (eBlks true acc))], 129⟩
abbrev verC (v : Ver) : List AV := [.v (.int .i64 v.seq), .v (.int .i64 v.at_), fB false v.data, .v (.int .i64 v.count)]
abbrev S_7 (acc : List Blk) (r : Nat) (k : Kd) (v : Ver) : ASt := ⟨envOf [(5, .os 0 0 acc.length 3), (6, .op 1 0), (7, .fp false (verC v) 0), (15, .v (ptr r))], heapOf [(0, .row true 57 (eBlks true acc)), (1, .row true 109 [.v (.int .i64 k.1), .v (.int .i64 k.2)])], 2⟩
abbrev S_8 (acc : List Blk) (r : Nat) (k : Kd) (v : Ver) (t : Bool) : ASt := ⟨envOf [(5, .os 0 0 acc.length 3), (6, .op 1 0), (7, .fp false (verC v) 0), (15, .v (ptr r)), (26, .v (.bool t))], heapOf [(0, .row true 57 (eBlks true acc)), (1, .row true 109 [.v (.int .i64 k.1), .v (.int .i64 k.2)])], 2⟩
abbrev A_allE : ASt := ⟨envOf [(2, .v (.slice none 0 0)), (3, .v (.int .i64 9))], heapOf [], 1⟩
theorem nwL_one {a : AV} (h : Nw a) : NwL [a] := ⟨h, trivial⟩
theorem nw_B (fr : Bool) (l : List Int) : Nw (fB fr l) := by
  unfold fB eB
  rw [Nw, NwL_iff]
  intro a ha
  obtain ⟨_, _, rfl⟩ := List.mem_map.1 ha
  trivial
theorem nw_Blks (fr : Bool) (l : List Blk) : Nw (fBlks fr l) := by
  unfold fBlks eBlks
  rw [Nw, NwL_iff]
  intro a ha
  obtain ⟨x, _, hx⟩ := List.mem_flatMap.1 ha
  simp only [eBlk, List.mem_cons, List.not_mem_nil, or_false] at hx
  rcases hx with rfl | rfl | rfl
  · trivial
  · trivial
  · exact nw_B fr x.data
theorem nw_Segs (fr : Bool) (l : List Sg) : Nw (fSegs fr l) := by
  unfold fSegs eSegs
  rw [Nw, NwL_iff]
  intro a ha
  obtain ⟨x, _, hx⟩ := List.mem_flatMap.1 ha
  simp only [eSg, List.mem_cons, List.not_mem_nil, or_false] at hx
  rcases hx with rfl | rfl
  · trivial
  · exact nw_Blks fr x.blocks
theorem nw_Bools (fr : Bool) (l : List Bool) : Nw (fBools fr l) := by
  unfold fBools eBools
  rw [Nw, NwL_iff]
  intro a ha
  obtain ⟨_, _, rfl⟩ := List.mem_map.1 ha
  trivial
theorem nw_st (fr : Bool) (s : St) : NwL [aSt fr s] := by
  refine nwL_one ?_
  rw [aSt, Nw]
  exact ⟨nw_Segs fr _, nw_Bools fr _, nw_Blks fr _, trivial, trivial⟩
theorem nw_all (l : List Blk) (n : Int) : Nw (.tup [fBlks true l, .v (.int .i64 n)]) := by
  rw [Nw]
  exact ⟨nw_Blks true _, trivial, trivial⟩
set_option maxHeartbeats 2000000 in
theorem logAll_A (fr : Bool) (s : St) (nb : Nat) (hok : okSt s) : ASound Try.prog 43 [aSt fr s] nb (.ret (.tup [fBlks true (allL s), .v (.int .i64 (errOf (chk s)))]) []) := by
  refine hand_sound Try.func43 rfl (by rfl) (by simp [Try.ntmps43]) (nw_st fr s) (nw_all _ _) ?_
  rw [Try.ntmps43]
  intro c a hY hrel
  have hT : ∀ b, ¬ c.T b := by rintro b ⟨id, o, h1, _⟩; rw [hrel.σ] at h1; cases h1
  refine wp_seq (aw_run (st := ⟨envA [aSt fr s], fun _ => none, 0⟩) (ac := rgA_0) (st' := A_all0 fr s) hrel (by kernel_rfl) ?_ ?_)
  · simp only [rgA_0, aSt, envA, SS, boxA, cellsOf, foffA, loadA, ldA, idxA, fldA, binA, binVal, isSh, intVal, lenA, slenA, pickA, storeA, setN, getN, fillA, extA, beqA, eqsA, eqL, isnilA, unA, unVal, convA, nilA, sconvA, b2sA, b2sOf, bytesOf, mmA, srcA, appA, sliceA, lohi, mkslA, envA, ↓reduceIte, Nat.reduceEqDiff, Nat.reduceAdd, Nat.reduceMul, reduceCtorEq, Nat.reduceLeDiff, fB, fBools, fBlks, fSegs, aBlk, aSg, aSt, stRow, List.drop_zero, List.take_succ_cons, List.take_zero, List.take_nil, Nat.mul_one, Nat.one_mul, List.cons_append, List.nil_append]
    refine Weak.calc [(0, 0)] (by decide) ?_ ?_ <;> simp [tk_B, tk_Bools, tk_Blks, tk_Segs, AlL_append, renL_append, okL, okH, rowIs, okV, okHV, rowVt, vtL, okF, okHF, rowFz, fzL, fzV, fzOne, nilLike, oldLike, rn, s_envOf, s_envOf0, s_heapOf, s_heapOf0, s_put, s_put0, s_put1, s_app0, s_app1, Al, AlL, ren, renL, al_B, al_Bools, al_Blks, al_Segs, ren_B, ren_Bools, ren_Blks, ren_Segs, fB, fBools, fBlks, fSegs]
  intro c1 a1 g1 h1
  simp only [Exit.then]
  refine wp_seq (aw_run2 (st := A_all0 fr s) (ac := .seq rgA_1 (.seq rgA_2 (.cond (.tmp 11) (.seq rgA_3 .ret) .skip))) (st' := A_all1 fr s) (st2 := A_allE) (p := chk s = true) (q := chk s = false) h1 (by kernel_rfl) ?_ ?_ ?_)
  · simp only [rgA_1, rgA_2, rgA_3, SS, boxA, cellsOf, foffA, loadA, ldA, idxA, fldA, binA, binVal, isSh, intVal, lenA, slenA, pickA, storeA, setN, getN, fillA, extA, beqA, eqsA, eqL, isnilA, unA, unVal, convA, nilA, sconvA, b2sA, b2sOf, bytesOf, mmA, srcA, appA, sliceA, lohi, mkslA, envA, ↓reduceIte, Nat.reduceEqDiff, Nat.reduceAdd, Nat.reduceMul, reduceCtorEq, Nat.reduceLeDiff, fB, fBools, fBlks, fSegs, aBlk, aSg, aSt, stRow, List.drop_zero, List.take_succ_cons, List.take_zero, List.take_nil, Nat.mul_one, Nat.one_mul, List.cons_append, List.nil_append]
    refine ⟨_, logCheck_A fr s _ hok, ?_⟩
    cases hc : chk s with
    | false =>
      simp only [show errOf false = 9 from rfl, Int.reduceEq, not_false_eq_true, SS, boxA, cellsOf, foffA, loadA, ldA, idxA, fldA, binA, binVal, isSh, intVal, lenA, slenA, pickA, storeA, setN, getN, fillA, extA, beqA, eqsA, eqL, isnilA, unA, unVal, convA, nilA, sconvA, b2sA, b2sOf, bytesOf, mmA, srcA, appA, sliceA, lohi, mkslA, envA, ↓reduceIte, Nat.reduceEqDiff, Nat.reduceAdd, Nat.reduceMul, reduceCtorEq, Nat.reduceLeDiff, fB, fBools, fBlks, fSegs, aBlk, aSg, aSt, stRow, List.drop_zero, List.take_succ_cons, List.take_zero, List.take_nil, Nat.mul_one, Nat.one_mul, List.cons_append, List.nil_append]
      refine .inr ?_
      refine Weak.calc [] (by decide) ?_ ?_ <;> simp [tk_B, tk_Bools, tk_Blks, tk_Segs, AlL_append, renL_append, okL, okH, rowIs, okV, okHV, rowVt, vtL, okF, okHF, rowFz, fzL, fzV, fzOne, nilLike, oldLike, rn, s_envOf, s_envOf0, s_heapOf, s_heapOf0, s_put, s_put0, s_put1, s_app0, s_app1, Al, AlL, ren, renL, al_B, al_Bools, al_Blks, al_Segs, ren_B, ren_Bools, ren_Blks, ren_Segs, fB, fBools, fBlks, fSegs]
    | true =>
      simp only [show errOf true = 0 from rfl, not_true, SS, boxA, cellsOf, foffA, loadA, ldA, idxA, fldA, binA, binVal, isSh, intVal, lenA, slenA, pickA, storeA, setN, getN, fillA, extA, beqA, eqsA, eqL, isnilA, unA, unVal, convA, nilA, sconvA, b2sA, b2sOf, bytesOf, mmA, srcA, appA, sliceA, lohi, mkslA, envA, ↓reduceIte, Nat.reduceEqDiff, Nat.reduceAdd, Nat.reduceMul, reduceCtorEq, Nat.reduceLeDiff, fB, fBools, fBlks, fSegs, aBlk, aSg, aSt, stRow, List.drop_zero, List.take_succ_cons, List.take_zero, List.take_nil, Nat.mul_one, Nat.one_mul, List.cons_append, List.nil_append]
      refine .inl ?_
      refine Weak.calc [(0, 0)] (by decide) ?_ ?_ <;> simp [tk_B, tk_Bools, tk_Blks, tk_Segs, AlL_append, renL_append, okL, okH, rowIs, okV, okHV, rowVt, vtL, okF, okHF, rowFz, fzL, fzV, fzOne, nilLike, oldLike, rn, s_envOf, s_envOf0, s_heapOf, s_heapOf0, s_put, s_put0, s_put1, s_app0, s_app1, Al, AlL, ren, renL, al_B, al_Bools, al_Blks, al_Segs, ren_B, ren_Bools, ren_Blks, ren_Segs, fB, fBools, fBlks, fSegs]
  · intro c2 a2 hc g2 h2
    simp only [Exit.then]
    refine wp_seq (aw_run (st := A_all1 fr s) (ac := rgA_4) (st' := A_all4 fr s) h2 (by kernel_rfl) ?_ ?_)
    · simp only [rgA_4, SS, boxA, cellsOf, foffA, loadA, ldA, idxA, fldA, binA, binVal, isSh, intVal, lenA, slenA, pickA, storeA, setN, getN, fillA, extA, beqA, eqsA, eqL, isnilA, unA, unVal, convA, nilA, sconvA, b2sA, b2sOf, bytesOf, mmA, srcA, appA, sliceA, lohi, mkslA, envA, ↓reduceIte, Nat.reduceEqDiff, Nat.reduceAdd, Nat.reduceMul, reduceCtorEq, Nat.reduceLeDiff, fB, fBools, fBlks, fSegs, aBlk, aSg, aSt, stRow, List.drop_zero, List.take_succ_cons, List.take_zero, List.take_nil, Nat.mul_one, Nat.one_mul, List.cons_append, List.nil_append]
      refine Weak.calc [(0, 0)] (by decide) ?_ ?_ <;> simp [tk_B, tk_Bools, tk_Blks, tk_Segs, AlL_append, renL_append, okL, okH, rowIs, okV, okHV, rowVt, vtL, okF, okHF, rowFz, fzL, fzV, fzOne, nilLike, oldLike, rn, s_envOf, s_envOf0, s_heapOf, s_heapOf0, s_put, s_put0, s_put1, s_app0, s_app1, Al, AlL, ren, renL, al_B, al_Bools, al_Blks, al_Segs, ren_B, ren_Bools, ren_Blks, ren_Segs, fB, fBools, fBlks, fSegs]
    intro c3 a3 g3 h3
    simp only [Exit.then]
    refine wp_seq (wp_seq (wp_region ?_))
    show wpOps _ _ _ [0, 1, 2] _ _
    rw [wpOps_cons]
    refine hand_eff (N := 43) (nx := 1) (st := A_all4 fr s) (ao := .load true 4 (.tmp 1)) (r := aSt fr s) (R := [0]) (W := []) (done' := fun j => j < 1) h3.start rfl rfl rfl (by kernel_rfl) rfl rfl (by omega) (fun j hj => by omega) ?_
    intro c4 a4 l4 h4
    rw [wpOps_cons]
    have hv4 : VR c4 (aSt fr s) (a4.eval (.tmp 13)) := h4.env 13
    obtain ⟨A0, k0, A1, k1, A2, k2, hu, e0, e1, e2⟩ := rd_stP hok hv4
    have g := (chk_iff s).1 hc
    refine hand_call (N := 43) (nx := 1) (done' := fun j => j < 2) h4 rfl rfl rfl (exec_call (f := 56) (args := [.tmp 13]) (by kernel_rfl) (by rfl) a4 _) ?_ (fun j hj => by omega)
    show Calls _ _ #[a4.eval (.tmp 13)] _ _
    rw [hu]
    refine (versions_calls s A0 A1 A2 k0 k1 k2 c4.w e0 e2 g.blocks8 g.n64 g.opn8).mono ?_
    rintro e w5 ⟨rfl, ⟨pt, hm⟩, hb5⟩
    refine ⟨_, ⟨w5, c4.B, c4.φ, c4.σ, c4.X, c4.Y⟩, .v (.map (some (c4.w.heap.size + 1))), rfl, rfl, rfl, Then.below h4.hr _ hb5, ?_⟩
    intro h5
    rw [wpOps_cons]
    obtain ⟨w6, hr6, it6, hb6, hs6⟩ := hasIter_start (P := Try.prog) Try.underlying105 hm.map
    have hev : (a4.put (some 14) (.map (some (c4.w.heap.size + 1)))).eval (.tmp 14) = .map (some (c4.w.heap.size + 1)) := h5.env 14
    refine hand_op (N := 43) (nx := 1) (d := ⟨w6, c4.B, c4.φ, c4.σ, c4.X, c4.Y⟩) (r := .v (ptr w5.heap.size)) (v := ptr w5.heap.size) (done' := fun j => j < 3) h5 rfl rfl rfl (exec_range rfl hev hr6) (Then.below h5.hr _ hb6) rfl (fun j hj => by omega) ?_
    intro h6
    show Exit.then _ _ _ _ _
    simp only [Exit.then]
    -- the loop's moment
    have hsz5 := hb5.size
    have gA : Grow c c3 := (g1.trans g2).trans g3
    have gB : Grow c c4 := gA.trans l4.grow
    have hBel4 : Below c.w.heap.size c.w c4.w := below_grow gB hT hY
    have hBel6 : Below c.w.heap.size c.w w6 := (hBel4.trans (hb5.mono hBel4.size)).trans (hb6.mono (Nat.le_trans hBel4.size hsz5))
    have hXlt : ∀ b, c4.X b → b < c4.w.heap.size := h4.hr.xlt
    generalize hX6 : (fun b => c4.X b ∨ b = c4.w.heap.size + 1 ∨ b = w5.heap.size) = X6
    generalize hr : w5.heap.size = r at *
    generalize hvb : c4.w.heap.size + 1 = vb at *
    have hvlt : vb < w6.heap.size := it6.lt.1
    have hrlt : r < w6.heap.size := it6.lt.2
    generalize hc6 : (⟨w6, c4.B, fun id => if id = 0 then some none else none, heapOf [(0, .row true 57 (eBlks true []))], X6, fun _ => .no⟩ : Cx) = c6
    have w6e : c6.w = w6 := by rw [← hc6]
    have T6 : ∀ b, ¬ c6.T b := by
      rintro b ⟨id, o, h7, h8⟩
      rw [← hc6] at h8
      simp only at h8
      split at h8 <;> cases h8
    have rel6 : RelR 43 1 No c6 (S_all [] r) ((a4.put (some 14) (.map (some vb))).put (some 15) (ptr r)) := by
      refine ⟨h6.defers, h6.size, fun t => ?_, ⟨fun id y e cells hs => ?_, fun id id' b _ _ h7 _ => ?_, ?_, fun b hb => ?_⟩, by rw [← hc6], fun id hid hne => ?_⟩
      · have k5 := h6.env 5
        have k15 := h6.env 15
        simp only [S_all, envOf]
        split
        · rename_i e; subst e
          have : ((a4.put (some 14) (.map (some vb))).put (some 15) (ptr r)).tmps.getD 5 undef = .slice none 0 0 := k5
          rw [this, VR]
          exact ⟨none, 0, rfl, Nat.le_refl _, .inl ⟨by rw [← hc6]; simp, rfl⟩⟩
        · split
          · rename_i e; subst e
            exact k15
          · trivial
      · rw [← hc6] at hs ⊢
        simp only [heapOf] at hs
        split at hs
        · rename_i e; subst e
          cases hs
          exact .inl ⟨rfl, rfl⟩
        · cases hs
      · rw [← hc6] at h7
        simp only at h7
        split at h7 <;> cases h7
      · rw [← hc6]
        have h9 := hb6.size
        have h8 := h4.hr.base
        show c4.B ≤ w6.heap.size
        omega
      · rw [← hc6] at hb ⊢
        simp only [← hX6] at hb
        rcases hb with hb | rfl | rfl
        · exact Nat.lt_of_lt_of_le (hXlt b hb) (Nat.le_trans (by omega) hb6.size)
        · exact hvlt
        · exact hrlt
      · rw [← hc6] at hne
        simp only at hne
        rw [if_neg (by omega)] at hne
        exact absurd rfl hne
    have hm6 := hm.below (by rw [hr]; exact hb6)
    have hnd : (versOf s).keys.Nodup := by
      obtain ⟨_, _, _, _, hn, _⟩ := hm.map
      simpa [List.map_map, Function.comp_def] using hn
    have hrv : r ≠ vb := by have := hm.map.lt; omega
    have I0 : AllI s w6 vb r c4.B X6 pt (versOf s).keys.length ((a4.put (some 14) (.map (some vb))).put (some 15) (ptr r)) c6 [] (fun _ => true) :=
      ⟨by rw [← hc6], by rw [← hc6], fun _ => by rw [← hc6], fun b hb => absurd hb (T6 b), rel6, by rw [w6e]; exact World.grownBy.refl _ _, by rw [w6e]; simpa using it6, by simp⟩
    rw [← w6e]
    refine wp_block (wp_loop_ghost (fun n a w => ∃ c acc todo, c.w = w ∧ AllI s w6 vb r c4.B X6 pt n a c acc todo) _ ⟨c6, [], _, rfl, I0⟩ ?_)
    rintro n b0 w' ⟨c7, acc, todo, rfl, I⟩
    refine wp_seq (wp_region ?_)
    show wpOps _ _ _ [0, 1] _ _
    rw [wpOps_cons]
    have I1 : RelR 43 1 (fun j => j < 0) c7 (S_all acc r) b0 := RelR.start (st := S_all acc r) I.rel
    have hev7 : b0.eval (.tmp 15) = ptr r := I.rel.env 15
    rcases hasIter_next (P := Try.prog) I.it 0 with ⟨hn0, hl, hrun⟩ | ⟨k, v, w8, n', hkv, htd, hrun, hit8, hlt8, hg8, hs8, hen⟩
    · refine hand_op (N := 43) (nx := 1) (st := S_all acc r) (d := c7) (r := .tup [.v (.bool false)]) (v := .tuple #[.bool false]) (done' := fun j => j < 1) I1 rfl rfl rfl (exec_next rfl hev7 hrun) (Then.refl I.rel.hr _) ⟨_, rfl, _, [], rfl, rfl, rfl⟩ (fun j hj => by omega) ?_
      intro h7
      rw [wpOps_cons]
      refine hand_eff (N := 43) (nx := 1) (ao := .ext 0 (.tmp 16)) (r := .v (.bool false)) (R := []) (W := []) (done' := fun j => j < 2) h7 rfl rfl rfl (by kernel_rfl) rfl rfl (by omega) (fun j hj => by omega) ?_
      intro c8 b8 l8 h8
      show Exit.then _ _ _ _ _
      simp only [Exit.then]
      refine wp_seq (wp_cond_split (t := false) (h8.env 17) (fun h => by cases h) (fun _ => wp_exit ?_))
      simp only [Exit.then, Exit.inBlock, if_true]
      -- the tail
      have h9 : RelR 43 129 No c8 (S_lp acc r) b8 := h8.shut _ (fun t => by
        simp only [envOf, putE, S_all]
        by_cases e5 : t = 5
        · subst e5; exact .inl rfl
        · by_cases e15 : t = 15
          · subst e15; exact .inl rfl
          · rw [if_neg e5, if_neg e15]; exact .inr rfl)
      refine wp_seq (wp_region ?_)
      show wpOps _ _ _ [0, 1] _ _
      rw [wpOps_cons]
      refine hand_op (N := 43) (nx := 129) (d := c8) (r := .any) (v := b8.eval (.tmp 5)) (st := S_lp acc r) (done' := fun j => j < 1) (RelR.start (st := S_lp acc r) h9) rfl rfl rfl (exec_mv rfl _ _) (Then.refl h9.hr _) trivial (fun j hj => by omega) ?_
      intro h10
      rw [wpOps_cons]
      have hv5 : VR c8 (.os 0 0 acc.length 3) (b8.eval (.tmp 5)) := h9.env 5
      have hpa : acc.Perm (((versOf s).keys.filter (neK s)).map (mkB s)) := by
        refine I.perm.trans (List.Perm.of_eq ?_)
        congr 1
        refine List.filter_congr fun k hk => ?_
        have := hl _ (List.mem_map.2 ⟨k, hk, rfl⟩)
        simp [this]
      have hal : acc.length < 4611686018427387904 := by
        have := hpa.length_eq
        rw [List.length_map] at this
        have h2 := List.length_filter_le (neK s) (versOf s).keys
        have := len_keys s g
        omega
      refine hand_call0 rfl rfl (exec_call (f := 69) (args := [.tmp 40, .func 70]) (by kernel_rfl) (by rfl) _ _) ?_
      have e40 : (b8.put (some 40) (b8.eval (.tmp 5))).eval (.tmp 40) = b8.eval (.tmp 5) := act_put_same _ _ _ (by rw [h9.size]; omega)
      show Calls _ _ #[(b8.put (some 40) (b8.eval (.tmp 5))).eval (.tmp 40), _] _ _
      rw [e40]
      refine (sort_step h9.hr h9.σ hv5 hal).mono ?_
      rintro e w9 ⟨rfl, d, L, rfl, dB, dX, dY, dhr, dσ, dφ, dv, hLp, hLs, dbel⟩
      refine ⟨_, rfl, ?_⟩
      show Exit.then _ _ _ _ _
      simp only [Exit.then]
      have hLe := all_sorted hLp hpa hLs
      have h11 : RelR 43 1 No d ⟨envOf [(5, fBlks true L)], heapOf [], 1⟩ ((b8.put (some 40) (b8.eval (.tmp 5))).put (some 41) (.tuple #[])) := by
        refine ⟨h10.defers, by simpa [Act.put] using h10.size, fun t => ?_, dhr, dσ, fun id _ hne => absurd (dφ id) hne⟩
        simp only [envOf]
        split
        · rename_i e; subst e
          have : ((b8.put (some 40) (b8.eval (.tmp 5))).put (some 41) (.tuple #[])).eval (.tmp 5) = b8.eval (.tmp 5) := by rw [act_put_ne _ _ _ _ (by decide), act_put_ne _ _ _ _ (by decide)]
          rw [← this] at dv
          exact dv
        · trivial
      refine aw_run2 (st := ⟨envOf [(5, fBlks true L)], heapOf [], 1⟩) (ac := .seq rgA_11 .ret) (st' := A_allE) (st2 := ⟨envOf [(2, fBlks true L), (3, .v (.int .i64 0))], heapOf [], 1⟩) (p := False) (q := True) h11 (by kernel_rfl) ?_ (fun _ _ h => h.elim) ?_
      · simp only [rgA_11, SS, boxA, cellsOf, foffA, loadA, ldA, idxA, fldA, binA, binVal, isSh, intVal, lenA, slenA, pickA, storeA, setN, getN, fillA, extA, beqA, eqsA, eqL, isnilA, unA, unVal, convA, nilA, sconvA, b2sA, b2sOf, bytesOf, mmA, srcA, appA, sliceA, lohi, mkslA, envA, ↓reduceIte, Nat.reduceEqDiff, Nat.reduceAdd, Nat.reduceMul, reduceCtorEq, Nat.reduceLeDiff, fB, fBools, fBlks, fSegs, aBlk, aSg, aSt, stRow, List.drop_zero, List.take_succ_cons, List.take_zero, List.take_nil, Nat.mul_one, Nat.one_mul, List.cons_append, List.nil_append]
        refine .inr ?_
        refine Weak.calc [] (by decide) ?_ ?_ <;> simp [tk_B, tk_Bools, tk_Blks, tk_Segs, AlL_append, renL_append, okL, okH, rowIs, okV, okHV, rowVt, vtL, okF, okHF, rowFz, fzL, fzV, fzOne, nilLike, oldLike, rn, s_envOf, s_envOf0, s_heapOf, s_heapOf0, s_put, s_put0, s_put1, s_app0, s_app1, Al, AlL, ren, renL, al_B, al_Bools, al_Blks, al_Segs, ren_B, ren_Bools, ren_Blks, ren_Segs, fB, fBools, fBlks, fSegs]
      · intro c9 a9 _ g9 r9
        refine ⟨Or.inr rfl, r9.defers, ?_⟩
        obtain ⟨u, e1, e2⟩ := results_run (fn := Try.f43) r9 (xs := [.tmp 2, .tmp 3]) (l := [fBlks true L, .v (.int .i64 0)]) (by kernel_rfl) rfl
        refine ⟨u, c9, e1, rfl, ?_, ?_, ?_, ?_⟩
        · rw [allL, hc, ← hLe]
          exact e2
        · obtain ⟨q1, q2, _⟩ := grown_on I.gr I.T I.Y l8.grow
          have b1 : Below c.w.heap.size w6 c8.w := by
            exact ⟨q1.os, q1.tape, q1.output, q1.size, fun b hb => q1.block b (by have := hBel6.size; omega) (fun e => by cases e; have := hBel4.size; omega)⟩
          have b2 := dbel c.w.heap.size (by have := hBel6.size; have := b1.size; omega) (fun b hb => by have := q2 b hb; have := hBel6.size; omega)
          have b3 : Below d.w.heap.size d.w c9.w := below_grow g9 (by rintro b ⟨id, o, h1, h2⟩; rw [dφ id] at h2; cases h2) (fun b => by rw [dY, l8.grow.Y]; exact I.Y b)
          exact ((hBel6.trans b1).trans b2).trans (b3.mono (by have := hBel6.size; have := b1.size; have := b2.size; omega))
        · rw [g9.B, dB, l8.grow.B, I.B, l4.grow.B, gA.B]
        · intro b hb
          rw [g9.X, dX, l8.grow.X, I.X, ← hX6]
          left
          rw [gB.X]
          exact hb
    · -- one more
      obtain ⟨hkk, rfl⟩ : k ∈ (versOf s).keys ∧ v = ptr (pt k) := by
        obtain ⟨k', h1, h2⟩ := List.mem_map.1 hkv
        cases h2
        exact ⟨h1, rfl⟩
      have hXr : c7.X r := by rw [I.X, ← hX6]; exact .inr (.inr rfl)
      have hnc : ∀ cs e f, c7.w.heap[r]? ≠ some (.cells cs e f) := by
        intro cs e f h
        obtain ⟨_, _, _, _, _, _, h2, _⟩ := I.it
        rw [h2] at h; cases h
      have I1' : RelR 43 1 (fun j => j < 0) (c7.reY fun b => if b = r then .free else .no) (S_all acc r) b0 := I1.reY (fun _ _ _ h => absurd h (wok_no I.Y))
      show wpOp _ _ _ _ _ _ (c7.reY fun b => if b = r then .free else .no).w
      refine hand_op (N := 43) (nx := 1) (c := c7.reY fun b => if b = r then .free else .no) (st := S_all acc r) (d := ⟨w8, c7.B, c7.φ, c7.σ, c7.X, fun b => if b = r then .free else .no⟩) (r := .tup [.v (.bool true), .any, .any]) (v := .tuple #[.bool true, enc2 k, ptr (pt k)]) (done' := fun j => j < 1) I1' rfl rfl rfl (exec_next rfl hev7 hrun)
        (Cx.turn (c := c7.reY fun b => if b = r then .free else .no) I1'.hr hXr (by simp) hg8 hnc) ⟨_, rfl, _, _, rfl, rfl, _, _, rfl, trivial, _, _, rfl, trivial, rfl⟩ (fun j hj => by omega) ?_
      intro h7f
      have h7 := RelR.reY (Y := fun _ => .no) (fun _ _ _ h => absurd h (wok_free rfl)) h7f
      clear h7f
      rw [wpOps_cons]
      generalize hcW : (Cx.reY ⟨w8, c7.B, c7.φ, c7.σ, c7.X, fun b => if b = r then .free else .no⟩ fun _ => .no) = cW at h7
      have wW : cW.w = w8 := by rw [← hcW]
      have TW : ∀ b, cW.T b → w6.heap.size ≤ b := by rw [← hcW]; exact I.T
      have XW : cW.X = X6 := by rw [← hcW]; exact I.X
      have YW : ∀ b, cW.Y b = .no := by rw [← hcW]; exact fun _ => rfl
      have BW : cW.B = c4.B := by rw [← hcW]; exact I.B
      have hg68 : w6.grownBy w8 (some r) := by rw [← w6e]; rw [← w6e] at *; exact grown_trans I.gr hg8
      show wpOp _ _ _ _ _ _ w8
      rw [← wW]
      have e16 : (b0.put (some 16) (.tuple #[.bool true, enc2 k, ptr (pt k)])).eval (.tmp 16) = .tuple #[.bool true, enc2 k, ptr (pt k)] := act_put_same _ _ _ (by rw [I.rel.size]; omega)
      refine hand_op (N := 43) (nx := 1) (d := cW) (r := .v (.bool true)) (v := .bool true) (done' := fun j => j < 2) h7 rfl rfl rfl (exec_ext rfl e16 rfl cW.w) (Then.refl h7.hr _) rfl (fun j hj => by omega) ?_
      intro h8
      show Exit.then _ _ _ _ _
      simp only [Exit.then]
      refine wp_seq (wp_cond_split (t := true) (h8.env 17) (fun _ => wp_skip ?_) (fun h => by cases h))
      simp only [Exit.then]
      have h9 : RelR 43 129 No cW (S_lp acc r) _ := h8.shut _ (fun t => by
        simp only [envOf, putE, S_all]
        by_cases e5 : t = 5
        · subst e5; exact .inl rfl
        · by_cases e15 : t = 15
          · subst e15; exact .inl rfl
          · rw [if_neg e5, if_neg e15]; exact .inr rfl)
      refine wp_block (wp_seq (wp_region ?_))
      show wpOps _ _ _ [0, 1, 2, 3, 4, 5] _ _
      rw [wpOps_cons]
      obtain ⟨hv, hvok⟩ : VR cW (.fp false (verC ((versOf s).ver k)) 0) (ptr (pt k)) ∧ okBytes ((versOf s).ver k).data := by
        obtain ⟨Ad, cd, hcell, hrd⟩ := hm6.at_ k hkk
        have hlo := (hm6.lo k hkk).1
        have hhi := (hm6.lo k hkk).2
        have hsz46 : c4.w.heap.size ≤ w6.heap.size := by omega
        refine ⟨?_, okBytes_rd hrd⟩
        rw [VR]
        have hpr : pt k ≠ r ∧ pt k ≠ vb := by
          have := (hm.lo k hkk).2
          omega
        have hok0 : ∀ b, b < w6.heap.size → ¬ X6 b → cW.ok false b := fun b hb hx => ⟨fun h => (by cases h), fun h => (by have := TW b h; omega), by rw [XW]; exact hx⟩
        have hc8 : cW.w.heap[pt k]? = some (.cells #[.int .i64 ((versOf s).ver k).seq, .int .i64 ((versOf s).ver k).at_, .slice Ad ((versOf s).ver k).data.length cd, .int .i64 ((versOf s).ver k).count] 111 (0, 0)) := by
          rw [wW, hg68.block _ hhi (fun e => by cases e; exact hpr.1 rfl)]
          exact hcell
        have hxk : ¬ X6 (pt k) := by
          rw [← hX6]
          rintro (h | h | h)
          · have := hXlt _ h; omega
          · exact hpr.2 h
          · exact hpr.1 h
        have hB8 : Below c4.w.heap.size w6 cW.w := by
          rw [wW]
          exact ⟨hg68.os, hg68.tape, hg68.output, hg68.size, fun b hb => hg68.block b (by omega) (fun e => by cases e; omega)⟩
        have hrd8 := hrd.belowAt (fun b hb => hb.2) hB8
        have hvd : VR cW (fB false ((versOf s).ver k).data) (.slice Ad ((versOf s).ver k).data.length cd) := vr_bytes hrd8 (fun b hb => hok0 b (by have := hb.2; omega) (by
          rw [← hX6]
          rintro (h | h | h)
          · exact hb.1.2.2 h
          · have := hb.2; omega
          · have := hb.2; omega))
        refine ⟨pt k, 0, rfl, lt_of_heap hc8, hok0 _ hhi hxk, VRm_iff.2 fun j x hj => ?_⟩
        rcases j with _ | _ | _ | _ | j
        · cases hj; exact ⟨_, cell_of hc8 0 rfl, rfl, rfl⟩
        · cases hj; exact ⟨_, cell_of hc8 1 rfl, rfl, rfl⟩
        · cases hj; exact ⟨_, cell_of hc8 2 rfl, rfl, hvd⟩
        · cases hj; exact ⟨_, cell_of hc8 3 rfl, rfl, rfl⟩
        · simp [verC] at hj
      have hev8 : Act.eval ((b0.put (some 16) (.tuple #[.bool true, enc2 k, ptr (pt k)])).put (some 17) (.bool true)) (.tmp 15) = ptr r := h9.env 15
      refine hand_op (N := 43) (nx := 129) (st := S_lp acc r) (d := cW) (r := .tup [.agg [.v (.int .i64 k.1), .v (.int .i64 k.2)], .fp false (verC ((versOf s).ver k)) 0]) (v := .tuple #[enc2 k, ptr (pt k)]) (done' := fun j => j < 1) (RelR.start (st := S_lp acc r) h9) rfl rfl rfl (exec_entry rfl hev8 (by rw [wW]; exact hen)) (Then.refl h9.hr _)
        ⟨_, rfl, _, _, rfl, ⟨_, rfl, _, _, rfl, rfl, rfl, _, _, rfl, rfl, rfl, rfl⟩, _, _, rfl, hv, rfl⟩ (fun j hj => by omega) ?_
      intro h10
      refine text_shut (k := 1) (rs := [⟨some 19, .ext 0 (.tmp 18), none, [18], []⟩, ⟨some 20, .ext 1 (.tmp 18), none, [18], []⟩, ⟨some 6, .new 109 [(.int .i64 (0)), (.int .i64 (0))], none, [], []⟩, ⟨none, .store 2 (.tmp 6) (.tmp 19), none, [6, 19], []⟩, ⟨some 7, .mv (.tmp 20), none, [20], []⟩])
        (by decide) (by kernel_rfl) h10 rfl (st' := S_7 acc r k ((versOf s).ver k)) (keep := [5, 6, 7, 15]) ?_ ?_
      · simp only [S_lp, verC, SS, boxA, cellsOf, foffA, loadA, ldA, idxA, fldA, binA, binVal, isSh, intVal, lenA, slenA, pickA, storeA, setN, getN, fillA, extA, beqA, eqsA, eqL, isnilA, unA, unVal, convA, nilA, sconvA, b2sA, b2sOf, bytesOf, mmA, srcA, appA, sliceA, lohi, mkslA, envA, ↓reduceIte, Nat.reduceEqDiff, Nat.reduceAdd, Nat.reduceMul, reduceCtorEq, Nat.reduceLeDiff, fB, fBools, fBlks, fSegs, aBlk, aSg, aSt, stRow, List.drop_zero, List.take_succ_cons, List.take_zero, List.take_nil, Nat.mul_one, Nat.one_mul, List.cons_append, List.nil_append]
        refine Weak.calc [(0, 0), (321, 1)] (by decide) ?_ ?_ <;> simp [tk_B, tk_Bools, tk_Blks, tk_Segs, AlL_append, renL_append, okL, okH, rowIs, okV, okHV, rowVt, vtL, okF, okHF, rowFz, fzL, fzV, fzOne, nilLike, oldLike, rn, s_envOf, s_envOf0, s_heapOf, s_heapOf0, s_put, s_put0, s_put1, s_app0, s_app1, Al, AlL, ren, renL, al_B, al_Bools, al_Blks, al_Segs, ren_B, ren_Bools, ren_Blks, ren_Segs, fB, fBools, fBlks, fSegs, setN, evA, putE, envOf]
      intro cA aA gA' hA
      simp only [Exit.then]
      have fin : ∀ cE aE acc', Grow cW cE → RelR 43 1 No cE (S_all acc' r) aE → acc' = (if neK s k = true then acc ++ [mkB s k] else acc) →
          ∃ n1, n1 < n ∧ ∃ c acc todo, c.w = cE.w ∧ AllI s w6 vb r c4.B X6 pt n1 aE c acc todo := by
        intro cE aE acc' gE hE hacc
        obtain ⟨q1, q2, q3⟩ := grown_on (c := cW) (by rw [wW]; exact hg68) TW YW gE
        refine ⟨n', hlt8, cE, acc', _, rfl, gE.B.trans BW, gE.X.trans XW, fun b => by rw [gE.Y]; exact YW b, q2, hE, q1, hit8.frame ?_ ?_, ?_⟩
        · rw [q3 vb hvlt, wW]
        · rw [q3 r hrlt, wW]
        · rw [hacc]
          exact perm_step s _ hnd hkk htd I.perm
      refine wp_seq (aw_run (st := S_7 acc r k ((versOf s).ver k)) (ac := rgA_8) (st' := S_8 acc r k ((versOf s).ver k) (neK s k)) hA (by kernel_rfl) ?_ ?_)
      · simp only [rgA_8, S_7, verC, SS, boxA, cellsOf, foffA, loadA, ldA, idxA, fldA, binA, binVal, isSh, intVal, lenA, slenA, pickA, storeA, setN, getN, fillA, extA, beqA, eqsA, eqL, isnilA, unA, unVal, convA, nilA, sconvA, b2sA, b2sOf, bytesOf, mmA, srcA, appA, sliceA, lohi, mkslA, envA, ↓reduceIte, Nat.reduceEqDiff, Nat.reduceAdd, Nat.reduceMul, reduceCtorEq, Nat.reduceLeDiff, fB, fBools, fBlks, fSegs, aBlk, aSg, aSt, stRow, List.drop_zero, List.take_succ_cons, List.take_zero, List.take_nil, Nat.mul_one, Nat.one_mul, List.cons_append, List.nil_append]
        refine Weak.calc [(0, 0), (1, 1)] (by decide) ?_ ?_
        · simp [tk_B, tk_Bools, tk_Blks, tk_Segs, AlL_append, renL_append, okL, okH, rowIs, okV, okHV, rowVt, vtL, okF, okHF, rowFz, fzL, fzV, fzOne, nilLike, oldLike, rn, s_envOf, s_envOf0, s_heapOf, s_heapOf0, s_put, s_put0, s_put1, s_app0, s_app1, Al, AlL, ren, renL, al_B, al_Bools, al_Blks, al_Segs, ren_B, ren_Bools, ren_Blks, ren_Segs, fB, fBools, fBlks, fSegs]
          unfold neK; rw [decide_eq_decide]; exact List.length_pos_iff
        · simp [tk_B, tk_Bools, tk_Blks, tk_Segs, AlL_append, renL_append, okL, okH, rowIs, okV, okHV, rowVt, vtL, okF, okHF, rowFz, fzL, fzV, fzOne, nilLike, oldLike, rn, s_envOf, s_envOf0, s_heapOf, s_heapOf0, s_put, s_put0, s_put1, s_app0, s_app1, Al, AlL, ren, renL, al_B, al_Bools, al_Blks, al_Segs, ren_B, ren_Bools, ren_Blks, ren_Segs, fB, fBools, fBlks, fSegs]
      intro cB aB gB' hB
      simp only [Exit.then]
      have hal : acc.length ≤ 520 := by
        have h1 := I.perm.length_eq
        rw [List.length_map] at h1
        have h2 := List.length_filter_le (fun k => !todo k && neK s k) (versOf s).keys
        have := len_keys s g
        omega
      refine wp_cond_split (t := neK s k) (hB.env 26) (fun ht => ?_) (fun ht => ?_)
      · refine aw_run (st := S_8 acc r k ((versOf s).ver k) (neK s k)) (ac := rgA_9) (st' := S_all (acc ++ [mkB s k]) r) hB (by kernel_rfl) ?_ ?_
        · simp only [rgA_9, S_8, verC, SS, boxA, cellsOf, foffA, loadA, ldA, idxA, fldA, binA, binVal, isSh, intVal, lenA, slenA, pickA, storeA, setN, getN, fillA, extA, beqA, eqsA, eqL, isnilA, unA, unVal, convA, nilA, sconvA, b2sA, b2sOf, bytesOf, mmA, srcA, appA, sliceA, lohi, mkslA, envA, ↓reduceIte, Nat.reduceEqDiff, Nat.reduceAdd, Nat.reduceMul, reduceCtorEq, Nat.reduceLeDiff, fB, fBools, fBlks, fSegs, aBlk, aSg, aSt, stRow, List.drop_zero, List.take_succ_cons, List.take_zero, List.take_nil, Nat.mul_one, Nat.one_mul, List.cons_append, List.nil_append]
          refine ⟨_, bytesClone_A false _ _ hvok, ?_⟩
          simp only [SS, boxA, cellsOf, foffA, loadA, ldA, idxA, fldA, binA, binVal, isSh, intVal, lenA, slenA, pickA, storeA, setN, getN, fillA, extA, beqA, eqsA, eqL, isnilA, unA, unVal, convA, nilA, sconvA, b2sA, b2sOf, bytesOf, mmA, srcA, appA, sliceA, lohi, mkslA, envA, ↓reduceIte, Nat.reduceEqDiff, Nat.reduceAdd, Nat.reduceMul, reduceCtorEq, Nat.reduceLeDiff, fB, fBools, fBlks, fSegs, aBlk, aSg, aSt, stRow, List.drop_zero, List.take_succ_cons, List.take_zero, List.take_nil, Nat.mul_one, Nat.one_mul, List.cons_append, List.nil_append]
          rw [if_pos ⟨len_Blks .., by omega⟩]
          refine ⟨by rfl, ?_⟩
          rw [show eBlks true acc ++ [AV.v (.int .i64 k.1), .v (.int .i64 k.2), .fs true (eB ((versOf s).ver k).data) ((versOf s).ver k).data.length] = eBlks true (acc ++ [mkB s k]) from by simp [eBlks, mkB, fB, eBlk]]
          refine Weak.calc [(770, 0)] (by decide) ?_ ?_ <;> simp [tk_B, tk_Bools, tk_Blks, tk_Segs, AlL_append, renL_append, okL, okH, rowIs, okV, okHV, rowVt, vtL, okF, okHF, rowFz, fzL, fzV, fzOne, nilLike, oldLike, rn, s_envOf, s_envOf0, s_heapOf, s_heapOf0, s_put, s_put0, s_put1, s_app0, s_app1, Al, AlL, ren, renL, al_B, al_Bools, al_Blks, al_Segs, ren_B, ren_Bools, ren_Blks, ren_Segs, fB, fBools, fBlks, fSegs]
        intro cE aE gE hE
        simp only [Exit.inBlock]
        exact fin cE aE _ ((gA'.trans gB').trans gE) hE (by rw [if_pos ht])
      · refine aw_run (st := S_8 acc r k ((versOf s).ver k) (neK s k)) (ac := .skip) (st' := S_all acc r) hB (by kernel_rfl) ?_ ?_
        · simp only [S_8, verC, SS, boxA, cellsOf, foffA, loadA, ldA, idxA, fldA, binA, binVal, isSh, intVal, lenA, slenA, pickA, storeA, setN, getN, fillA, extA, beqA, eqsA, eqL, isnilA, unA, unVal, convA, nilA, sconvA, b2sA, b2sOf, bytesOf, mmA, srcA, appA, sliceA, lohi, mkslA, envA, ↓reduceIte, Nat.reduceEqDiff, Nat.reduceAdd, Nat.reduceMul, reduceCtorEq, Nat.reduceLeDiff, fB, fBools, fBlks, fSegs, aBlk, aSg, aSt, stRow, List.drop_zero, List.take_succ_cons, List.take_zero, List.take_nil, Nat.mul_one, Nat.one_mul, List.cons_append, List.nil_append]
          refine Weak.calc [(0, 0)] (by decide) ?_ ?_ <;> simp [tk_B, tk_Bools, tk_Blks, tk_Segs, AlL_append, renL_append, okL, okH, rowIs, okV, okHV, rowVt, vtL, okF, okHF, rowFz, fzL, fzV, fzOne, nilLike, oldLike, rn, s_envOf, s_envOf0, s_heapOf, s_heapOf0, s_put, s_put0, s_put1, s_app0, s_app1, Al, AlL, ren, renL, al_B, al_Bools, al_Blks, al_Segs, ren_B, ren_Bools, ren_Blks, ren_Segs, fB, fBools, fBlks, fSegs]
        intro cE aE gE hE
        simp only [Exit.inBlock]
        exact fin cE aE _ ((gA'.trans gB').trans gE) hE (by rw [if_neg (by rw [ht]; decide)])
  · intro c2 a2 hc g2 h2
    show (_ ∨ _) ∧ _ ∧ _
    refine ⟨Or.inr rfl, h2.defers, ?_⟩
    obtain ⟨u, e1, e2⟩ := results_run (fn := Try.f43) h2 (xs := [.tmp 2, .tmp 3]) (l := [.v (.slice none 0 0), .v (.int .i64 9)]) (by kernel_rfl) rfl
    refine ⟨u, c2, e1, rfl, ?_, below_grow (g1.trans g2) hT hY, (g1.trans g2).B, fun b hb => by rw [(g1.trans g2).X]; exact hb⟩
    rw [allL, hc]
    exact Imp.tupL (l := [.v (.slice none 0 0), .v (.int .i64 9)]) (l' := [fBlks true [], .v (.int .i64 9)]) ⟨Imp.nil true, Imp.refl _, trivial⟩ _ _ e2
end Go.Proofs.Ytfoeddmbhmfjcaa
