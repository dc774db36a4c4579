/- Merged texts: J0, JK, JL, KA, JM, JN, JO, JP, JQ. -/
import Derived.Test.YtfoeddmbhmfjcaaXH
import Derived.Test.YtfoeddmbhmfjcaaXG
import Derived.Test.YtfoeddmbhmfjcaaXD
import Derived.Test.YtfoeddmbhmfjcaaProg
set_option linter.unusedSimpArgs false
set_option linter.unusedVariables false
/- Steps by hand between the machine's steps. -/
namespace Go.Proofs.Ytfoeddmbhmfjcaa
open Go.RowKit
section
variable {P : Program} {ops : Array Oper} {N nx : Nat} {Q : Exit → Act → World → Prop} {c d : Cx} {st : ASt} {a : Act}

/-- an operation of the machine, alone -/
theorem hand_eff {done done' : Nat → Prop} (h : RelR N nx done c st a) {i : Nat} {o : Oper} {ao : AO} {r : AV} {R : List Nat} {W : List (Nat × Option AObj)} (ho : ops[i]? = some o) (hg : o.guard = none) (hd : dstOk o.dst N = true) (hao : compOp P o = some ao)
    (hm : DoesA P st.env (nx + 64 * i) (eff (evA st.env) (nx + 64 * i) ao) ao) (hr : (eff (evA st.env) (nx + 64 * i) ao).run st.σ = some (r, R, W)) (hi : ¬ done i) (hdn : ∀ j, done j ∨ j = i → done' j) {K : Act → World → Prop}
    (hK : ∀ c' a', Later nx c c' → RelR N nx done' c' ⟨putE st.env o.dst r, app st.σ W, st.nx⟩ a' → K a' c'.w) : wpOp P ops Q i K a c.w := by
  refine entry_wp (e := ⟨i, o, some (eff (evA st.env) (nx + 64 * i) ao), r, R, W⟩) (N := N) h ⟨ho, fun t ht => ?_, .inl hg, hr, ao, hao, hm⟩ hi hdn hK
  have ht' : o.dst = some t := ht
  rw [ht'] at hd
  simpa [dstOk] using hd
/-- an operation that is carried out by hand: its value, and the moment behind it -/
theorem hand_op {done done' : Nat → Prop} (h : RelR N nx done c st a) {i : Nat} {o : Oper} {r : AV} {v : Value} (ho : ops[i]? = some o) (hg : o.guard = none) (hd : dstOk o.dst N = true) (hrun : (execOp a.eval o).run P c.w = .ok (.value v) d.w)
    (T : Then c (nx + 64 * i) [] d) (hv : VR d r v) (hdn : ∀ j, done j ∨ j = i → done' j) {K : Act → World → Prop} (hK : RelR N nx done' d ⟨putE st.env o.dst r, st.σ, st.nx⟩ (a.put o.dst v) → K (a.put o.dst v) d.w) : wpOp P ops Q i K a c.w := by
  unfold wpOp
  rw [ho]
  simp only
  rw [show Region.wanted o (yielded ops a.tmps) = true from by simp [Region.wanted, hg], if_pos rfl]
  left
  unfold Oper.wp
  rw [hrun, Oper.upon_value]
  refine hK (h.put T hv (fun t ht => ?_) hdn)
  rw [ht] at hd
  simpa [dstOk] using hd
/-- a call that is carried out by hand -/
theorem hand_call {done done' : Nat → Prop} (h : RelR N nx done c st a) {i : Nat} {o : Oper} {f : Nat} {args : Array Value} (ho : ops[i]? = some o) (hg : o.guard = none) (hd : dstOk o.dst N = true) (hrun : (execOp a.eval o).run P c.w = .ok (.enter f args) c.w)
    {K : Act → World → Prop} (hc : Calls P f args c.w fun e w' => ∃ v d r, e = .returned v ∧ d.w = w' ∧ VR d r v ∧ Then c (nx + 64 * i) [] d ∧ (RelR N nx done' d ⟨putE st.env o.dst r, st.σ, st.nx⟩ (a.put o.dst v) → K (a.put o.dst v) d.w)) (hdn : ∀ j, done j ∨ j = i → done' j) : wpOp P ops Q i K a c.w := by
  unfold wpOp
  rw [ho]
  simp only
  rw [show Region.wanted o (yielded ops a.tmps) = true from by simp [Region.wanted, hg], if_pos rfl]
  left
  unfold Oper.wp
  rw [hrun, Oper.upon_enter]
  refine hc.mono ?_
  rintro e w' ⟨v, d, r, rfl, rfl, h1, h2, h3⟩
  refine h3 (h.put h2 h1 (fun t ht => ?_) hdn)
  rw [ht] at hd
  simpa [dstOk] using hd
/-- the rest of a region in its text's order -/
theorem text_from {k : Nat} {rs : List RO} (hk : k ≤ ops.size) (hc : compROs P ops N (ops.toList.drop k) [] = some rs) (h : RelR N nx (fun j => j < k) c st a) {K : ASt → Prop} (hr : runL P nx rs k st [] fun s _ => K s)
    (hQ : ∀ c' a' f, Later nx c c' → RelR N nx (fun j => j < ops.size) c' f a' → f.nx = st.nx → K f → Q .normal a' c'.w) : wpOps P ops Q (List.range' k (ops.size - k)) a c.w := by
  obtain ⟨e1, e2⟩ := compROs_spec (k := k) hc (fun j o hj => by rw [List.getElem?_drop] at hj; simpa using hj) (fun j hj q hq => by simp at hq)
  obtain ⟨tr, f, t1, t2, t3, t4, t5⟩ := runL_trace e2 hr
  have hlen : tr.length = ops.size - k := by rw [t1, e1]; simp
  rw [← hlen]
  exact text_trace tr k st c a (by omega) t2 t3 h (fun c' a' hl' hr' => hQ c' a' f hl' hr' t5 t4)
theorem RelR.shut {k nx : Nat} (h : RelR N nx (fun j => j < k) c st a) (l : List (Nat × AV)) (he : ∀ t, envOf l t = st.env t ∨ envOf l t = .any) : RelR N (nx + 64 * k) No c ⟨envOf l, st.σ, nx + 64 * k⟩ a := h.close _ he
/-- .. and the region's end -/
theorem text_shut {k : Nat} {rs : List RO} (hk : k ≤ ops.size) (hc : compROs P ops N (ops.toList.drop k) [] = some rs) (h : RelR N nx (fun j => j < k) c st a) (hnx : st.nx = nx) {st' : ASt} {keep : List Nat} (hr : runL P nx rs k st [] fun s _ => Weak N 0 ⟨envOf (keep.map fun k => (k, s.env k)), s.σ, nx + 64 * ops.size⟩ st')
    (hQ : ∀ c' a', Grow c c' → RelR N st'.nx No c' st' a' → Q .normal a' c'.w) : wpOps P ops Q (List.range' k (ops.size - k)) a c.w := by
  refine text_from hk hc h hr fun c' a' f hl h1 _ hw => ?_
  obtain ⟨c2, e2, g2, _, h2, _⟩ := hw c' a' (h1.shut _ (envOf_map f.env keep)) (Nat.zero_le _)
  rw [← e2]
  exact hQ c2 a' (hl.grow.trans g2) h2
theorem hand_call0 {i : Nat} {o : Oper} {f : Nat} {args : Array Value} {w : World} (ho : ops[i]? = some o) (hg : o.guard = none) (hrun : (execOp a.eval o).run P w = .ok (.enter f args) w)
    {K : Act → World → Prop} (hc : Calls P f args w fun e w' => ∃ v, e = .returned v ∧ K (a.put o.dst v) w') : wpOp P ops Q i K a w := by
  unfold wpOp
  rw [ho]
  simp only
  rw [show Region.wanted o (yielded ops a.tmps) = true from by simp [Region.wanted, hg], if_pos rfl]
  left
  unfold Oper.wp
  rw [hrun, Oper.upon_enter]
  refine hc.mono ?_
  rintro e w' ⟨v, rfl, h3⟩
  exact h3
theorem exec_mv {o : Oper} {x : Operand} (hop : o.op = Op.move x) (a : Act) (w : World) : (execOp a.eval o).run P w = .ok (.value (a.eval x)) w := by
  simp [execOp, hop]
theorem exec_ext {o : Oper} {x : Operand} {i : Nat} {us : Array Value} {v : Value} (hop : o.op = Op.extract x i) (hm : a.eval x = .tuple us) (hi : us[i]? = some v) (w : World) : (execOp a.eval o).run P w = .ok (.value v) w := by
  simp [execOp, hop, hm, hi, Instr.extract, Result.andThen]
theorem act_put_same (a : Act) (d : Nat) (v : Value) (h : d < a.tmps.size) : (a.put (some d) v).eval (.tmp d) = v := by
  show (a.tmps.setIfInBounds d v).getD d undef = v
  simp [h]
theorem act_put_ne (a : Act) (d j : Nat) (v : Value) (h : d ≠ j) : (a.put (some d) v).eval (.tmp j) = a.eval (.tmp j) := by
  show (a.tmps.setIfInBounds d v).getD j undef = a.tmps.getD j undef
  simp [Array.getElem?_setIfInBounds_ne h]
theorem RelR.start (h : RelR N st.nx No c st a) : RelR N st.nx (fun j => j < 0) c st a :=
  ⟨h.defers, h.size, h.env, h.hr, h.σ, fun id h1 h2 => by obtain ⟨j, h3, _⟩ := h.fresh id h1 h2; exact h3.elim⟩
/-- block r, another's and free, is another object now -/
theorem Cx.turn {w' : World} {r : Nat} {nb : Nat} (h : HR c) (hX : c.X r) (hY : c.Y r = .free) (hg : c.w.grownBy w' (some r)) (hnc : ∀ cs e f, c.w.heap[r]? ≠ some (.cells cs e f)) : Then c nb [] ⟨w', c.B, c.φ, c.σ, c.X, c.Y⟩ := by
  have g : Grow c ⟨w', c.B, c.φ, c.σ, c.X, c.Y⟩ := by
    refine ⟨rfl, rfl, hg.output, hg.os, hg.tape, hg.size, fun b hb _ hy => hg.block b hb (fun e => ?_), fun b hb => .inl hb, fun b cs e f hb => ⟨cs, f, ?_, rfl⟩, rfl, fun b k sz _ _ h3 h4 h5 => ?_⟩
    · cases e
      have := hy hX
      rw [hY] at this; cases this
    · exact (hg.block b (lt_of_heap hb) (fun e => by cases e; exact hnc _ _ _ hb)).trans hb
    · obtain ⟨cs, e, h6, h7⟩ := h5
      exact ⟨cs, e, (hg.block b (lt_of_heap h6) (fun e => by cases e; exact hnc _ _ _ h6)).trans h6, h7⟩
  have n : Names c ⟨w', c.B, c.φ, c.σ, c.X, c.Y⟩ := fun _ _ h => h
  refine ⟨g, n, ⟨fun id y e cells hs => ?_, h.inj, Nat.le_trans h.base hg.size, fun b hx => Nat.lt_of_lt_of_le (h.xlt b hx) hg.size⟩, rfl, fun _ h => .inl h⟩
  rcases h.row id y e cells hs with h1 | ⟨b, cs, h1, h2, h3, h4, h5⟩
  · exact .inl h1
  · refine .inr ⟨b, cs, h1, (hg.block b (lt_of_heap h2) (fun e => by cases e; exact h3.2 hX)).trans h2, h3, h4, fun j a hj => ?_⟩
    obtain ⟨u, k1, k2, k3⟩ := h5 j a hj
    exact ⟨u, k1, k2, VR.mono g n k3⟩
theorem exec_call {o : Oper} {f : Nat} {args : List Operand} (hao : compOp P o = some (.call f args)) (hent : enters P f = true) (a : Act) (w : World) : (execOp a.eval o).run P w = .ok (.enter f (args.map a.eval).toArray) w := by
  obtain ⟨cl, e1, e2, rfl⟩ := comp_call hao
  simp only [execOp, e1, resolve, e2, show a.eval (.func f) = .func (.func f) #[] #[] from rfl, Deferred.ofValue, invoke, Sem.run_bind, Sem.run_pure, Result.andThen_ok]
  simp [run_callFunc hent]
  apply Array.ext'
  simp
theorem exec_range {o : Oper} {t : TypeId} {m : Operand} (hop : o.op = Op.range t m) {v v' : Value} {w w' : World} (hm : a.eval m = v) (hr : (Instr.range t v).run P w = .ok v' w') : (execOp a.eval o).run P w = .ok (.value v') w' := by
  simp [execOp, hop, hm, hr, Result.andThen]
theorem exec_next {o : Oper} {it : Operand} (hop : o.op = Op.next it false) {v v' : Value} {w w' : World} (hm : a.eval it = v) (hr : (Instr.next v false o.type).run P w = .ok v' w') : (execOp a.eval o).run P w = .ok (.value v') w' := by
  simp [execOp, hop, hm, hr, Result.andThen]
theorem exec_entry {o : Oper} {it : Operand} (hop : o.op = Op.entry it) {v v' : Value} {w w' : World} (hm : a.eval it = v) (hr : (Instr.entry v).run P w = .ok v' w') : (execOp a.eval o).run P w = .ok (.value v') w' := by
  simp [execOp, hop, hm, hr, Result.andThen]
/-- code of the machine, ahead of a walk by hand -/
theorem aw_run {code : Code} {ac : AC} {st' : ASt} {Q' : Exit → Act → World → Prop} (hrel : RelR N st.nx No c st a) (hc : compCode P N code = some ac.forget) (hw : wpC P N 0 ac st fun e s => e = .normal ∧ Weak N 0 s st')
    (hQ : ∀ c' a', Grow c c' → RelR N st'.nx No c' st' a' → Q' .normal a' c'.w) : code.wp P Q' a c.w := by
  refine wp_mono (wpC_sound hw code hc c a hrel (Nat.zero_le _)) ?_
  rintro e a1 w1 ⟨c1, s1, rfl, g1, _, h1, _, rfl, hk⟩
  obtain ⟨c2, e2, g2, _, h2, _⟩ := hk c1 a1 h1 (Nat.zero_le _)
  rw [← e2]
  exact hQ c2 a1 (g1.trans g2) h2
/-- .. that may end the function -/
theorem aw_run2 {code : Code} {ac : AC} {st' st2 : ASt} {p q : Prop} {Q' : Exit → Act → World → Prop} (hrel : RelR N st.nx No c st a) (hc : compCode P N code = some ac.forget) (hw : wpC P N 0 ac st fun e s => (e = .normal ∧ p ∧ Weak N 0 s st') ∨ (e = .ret ∧ q ∧ Weak N 0 s st2))
    (hQ : ∀ c' a', p → Grow c c' → RelR N st'.nx No c' st' a' → Q' .normal a' c'.w) (hR : ∀ c' a', q → Grow c c' → RelR N st2.nx No c' st2 a' → Q' .ret a' c'.w) : code.wp P Q' a c.w := by
  refine wp_mono (wpC_sound hw code hc c a hrel (Nat.zero_le _)) ?_
  rintro e a1 w1 ⟨c1, s1, rfl, g1, _, h1, _, ⟨rfl, hp, hk⟩ | ⟨rfl, hq, hk⟩⟩
  · obtain ⟨c2, e2, g2, _, h2, _⟩ := hk c1 a1 h1 (Nat.zero_le _)
    rw [← e2]
    exact hQ c2 a1 hp (g1.trans g2) h2
  · obtain ⟨c2, e2, g2, _, h2, _⟩ := hk c1 a1 h1 (Nat.zero_le _)
    rw [← e2]
    exact hR c2 a1 hq (g1.trans g2) h2
theorem below_grow (g : Grow c d) (hT : ∀ b, ¬ c.T b) (hY : ∀ b, c.Y b = .no) : Below c.w.heap.size c.w d.w := ⟨g.osE, g.tape, g.out, g.size, fun b hb => g.stay b hb (hT b) (fun _ => hY b)⟩
mutual
/-- no slice or pointer inside by which others' blocks may be written; no names -/
def Nw : AV → Prop
  | .any | .v _ | .wv _ => True
  | .fs _ cs _ | .fp _ cs _ | .agg cs | .tup cs | .fn _ cs | .us _ _ cs _ => NwL cs
  | .os _ _ _ _ | .op _ _ | .ws _ _ | .wp _ => False
def NwL : List AV → Prop
  | [] => True
  | a :: r => Nw a ∧ NwL r
end
theorem NwL_iff : ∀ {l : List AV}, NwL l ↔ ∀ a ∈ l, Nw a
  | [] => by simp [NwL]
  | a :: r => by rw [NwL, NwL_iff (l := r)]; simp
mutual
theorem VR.nw {c d : Cx} (hw : d.w = c.w) (hk : ∀ fr b, b < c.w.heap.size → c.ok fr b → d.ok fr b) : ∀ {a : AV} {u : Value}, Nw a → VR c a u → VR d a u
  | .any, u, _, _ => trivial
  | .v x, u, _, k => k
  | .wv q, u, _, k => k
  | .fs fr cs n, u, q, k => by
    obtain ⟨A, k', rfl, hk', hm⟩ := k
    refine ⟨A, k', rfl, hk', fun h0 => ?_⟩
    obtain ⟨b, off, rfl, e1, e2, e3⟩ := hm h0
    exact ⟨b, off, rfl, by rw [hw]; exact e1, hk fr b e1 e2, VRm.nw hw hk q e3⟩
  | .fp fr cs n, u, q, k => by
    obtain ⟨b, off, rfl, e1, e2, e3⟩ := k
    exact ⟨b, off, rfl, by rw [hw]; exact e1, hk fr b e1 e2, VRm.nw hw hk q e3⟩
  | .us fr e cs n, u, q, k => by
    obtain ⟨A, k', rfl, hk', hm⟩ := k
    refine ⟨A, k', rfl, hk', fun h0 => ?_⟩
    obtain ⟨b, rfl, e2, ⟨vs, e1⟩, e3⟩ := hm h0
    exact ⟨b, rfl, hk fr b (lt_of_heap e1) e2, ⟨vs, by rw [hw]; exact e1⟩, VRm.nw hw hk q e3⟩
  | .agg l, u, q, k => by obtain ⟨us, rfl, k⟩ := k; exact ⟨us, rfl, VRl.nw hw hk q k⟩
  | .tup l, u, q, k => by obtain ⟨us, rfl, k⟩ := k; exact ⟨us, rfl, VRt.nw hw hk q k⟩
  | .fn f l, u, q, k => by obtain ⟨us, rfl, k⟩ := k; exact ⟨us, rfl, VRt.nw hw hk q k⟩
theorem VRm.nw {c d : Cx} (hw : d.w = c.w) (hk : ∀ fr b, b < c.w.heap.size → c.ok fr b → d.ok fr b) {b : Nat} : ∀ {cs : List AV} {off : Nat}, NwL cs → VRm c b off cs → VRm d b off cs
  | [], _, _, _ => trivial
  | a :: r, off, q, k => by
    rw [VRm] at k ⊢
    obtain ⟨⟨u, h1, h2, h3⟩, h4⟩ := k
    exact ⟨⟨u, by rw [hw]; exact h1, h2, VR.nw hw hk q.1 h3⟩, VRm.nw hw hk q.2 h4⟩
theorem VRl.nw {c d : Cx} (hw : d.w = c.w) (hk : ∀ fr b, b < c.w.heap.size → c.ok fr b → d.ok fr b) : ∀ {cs : List AV} {us : List Value}, NwL cs → VRl c cs us → VRl d cs us
  | [], _, _, k => k
  | a :: r, us, q, k => by
    rw [VRl] at k ⊢
    obtain ⟨u, us', rfl, h1, h2, h3⟩ := k
    exact ⟨u, us', rfl, h1, VR.nw hw hk q.1 h2, VRl.nw hw hk q.2 h3⟩
theorem VRt.nw {c d : Cx} (hw : d.w = c.w) (hk : ∀ fr b, b < c.w.heap.size → c.ok fr b → d.ok fr b) : ∀ {cs : List AV} {us : List Value}, NwL cs → VRt c cs us → VRt d cs us
  | [], _, _, k => k
  | a :: r, us, q, k => by
    rw [VRt] at k ⊢
    obtain ⟨u, us', rfl, h2, h3⟩ := k
    exact ⟨u, us', rfl, VR.nw hw hk q.1 h2, VRt.nw hw hk q.2 h3⟩
end
section
variable {Y : Nat → WK}
/-- .. with other kinds of another's blocks -/
abbrev Cx.reY (c : Cx) (Y : Nat → WK) : Cx := ⟨c.w, c.B, c.φ, c.σ, c.X, Y⟩
mutual
theorem VR.reY {c : Cx} (hk : ∀ k b n, c.wok k b n → (c.reY Y).wok k b n) : ∀ {a : AV} {u : Value}, VR c a u → VR (c.reY Y) a u
  | .any, u, _ => trivial
  | .v x, u, k => k
  | .wv q, u, k => k
  | .fs fr cs n, u, k => by
    obtain ⟨A, k', rfl, hk', hm⟩ := k
    refine ⟨A, k', rfl, hk', fun h0 => ?_⟩
    obtain ⟨b, off, rfl, e1, e2, e3⟩ := hm h0
    exact ⟨b, off, rfl, e1, e2, VRm.reY hk e3⟩
  | .fp fr cs n, u, k => by
    obtain ⟨b, off, rfl, e1, e2, e3⟩ := k
    exact ⟨b, off, rfl, e1, e2, VRm.reY hk e3⟩
  | .us fr e cs n, u, k => by
    obtain ⟨A, k', rfl, hk', hm⟩ := k
    refine ⟨A, k', rfl, hk', fun h0 => ?_⟩
    obtain ⟨b, rfl, e2, e1, e3⟩ := hm h0
    exact ⟨b, rfl, e2, e1, VRm.reY hk e3⟩
  | .os _ _ _ _, u, k => k
  | .op _ _, u, k => k
  | .ws q n, u, k => by
    obtain ⟨A, r, rfl, h1, h2⟩ := k
    refine ⟨A, r, rfl, h1, fun h0 => ?_⟩
    obtain ⟨b, off, rfl, e1⟩ := h2 h0
    exact ⟨b, off, rfl, hk _ _ _ e1⟩
  | .wp q, u, k => by
    obtain ⟨b, off, rfl, e1⟩ := k
    exact ⟨b, off, rfl, hk _ _ _ e1⟩
  | .agg l, u, k => by obtain ⟨us, rfl, k⟩ := k; exact ⟨us, rfl, VRl.reY hk k⟩
  | .tup l, u, k => by obtain ⟨us, rfl, k⟩ := k; exact ⟨us, rfl, VRt.reY hk k⟩
  | .fn f l, u, k => by obtain ⟨us, rfl, k⟩ := k; exact ⟨us, rfl, VRt.reY hk k⟩
theorem VRm.reY {c : Cx} (hk : ∀ k b n, c.wok k b n → (c.reY Y).wok k b n) {b : Nat} : ∀ {cs : List AV} {off : Nat}, VRm c b off cs → VRm (c.reY Y) b off cs
  | [], _, _ => trivial
  | a :: r, off, k => by
    rw [VRm] at k ⊢
    obtain ⟨⟨u, h1, h2, h3⟩, h4⟩ := k
    exact ⟨⟨u, h1, h2, VR.reY hk h3⟩, VRm.reY hk h4⟩
theorem VRl.reY {c : Cx} (hk : ∀ k b n, c.wok k b n → (c.reY Y).wok k b n) : ∀ {cs : List AV} {us : List Value}, VRl c cs us → VRl (c.reY Y) cs us
  | [], _, k => k
  | a :: r, us, k => by
    rw [VRl] at k ⊢
    obtain ⟨u, us', rfl, h1, h2, h3⟩ := k
    exact ⟨u, us', rfl, h1, VR.reY hk h2, VRl.reY hk h3⟩
theorem VRt.reY {c : Cx} (hk : ∀ k b n, c.wok k b n → (c.reY Y).wok k b n) : ∀ {cs : List AV} {us : List Value}, VRt c cs us → VRt (c.reY Y) cs us
  | [], _, k => k
  | a :: r, us, k => by
    rw [VRt] at k ⊢
    obtain ⟨u, us', rfl, h2, h3⟩ := k
    exact ⟨u, us', rfl, VR.reY hk h2, VRt.reY hk h3⟩
end
theorem RelR.reY {done : Nat → Prop} (hk : ∀ k b n, c.wok k b n → (c.reY Y).wok k b n) (h : RelR N nx done c st a) : RelR N nx done (c.reY Y) st a := by
  refine ⟨h.defers, h.size, fun t => (h.env t).reY hk, ⟨fun id y e cells hs => ?_, h.hr.inj, h.hr.base, h.hr.xlt⟩, h.σ, h.fresh⟩
  rcases h.hr.row id y e cells hs with h1 | ⟨b, cs, h1, h2, h3, h4, h5⟩
  · exact .inl h1
  · refine .inr ⟨b, cs, h1, h2, h3, h4, fun j x hj => ?_⟩
    obtain ⟨u, k1, k2, k3⟩ := h5 j x hj
    exact ⟨u, k1, k2, k3.reY hk⟩
theorem wok_no {c : Cx} (h : ∀ b, c.Y b = .no) {k : WK} {b n : Nat} : ¬ c.wok k b n := by
  rintro ⟨_, _, h1, h2, _⟩
  rw [h b] at h1
  rcases h2 with rfl | rfl <;> cases h1
theorem wok_free {c : Cx} {r : Nat} (h : c.Y = fun b => if b = r then .free else .no) {k : WK} {b n : Nat} : ¬ c.wok k b n := by
  rintro ⟨_, _, h1, h2, _⟩
  rw [h] at h1
  simp only at h1
  split at h1 <;> rcases h2 with rfl | rfl <;> cases h1
end
/-- a body that is walked by hand -/
theorem hand_sound {f : FuncId} {fn : Func} {code : Code} {args : List AV} {nb : Nat} {r : AV} (hf : P.funcs[f]? = some fn) (hb : fn.body = some code) (hn : enters P f = true) (hlen : args.length ≤ fn.ntmps) (hpure : NwL args) (hr : Nw r)
    (h : ∀ (c : Cx) (a : Act), (∀ b, c.Y b = .no) → RelR fn.ntmps 0 No c ⟨envA args, fun _ => none, 0⟩ a → code.wp P (fun e a' w' => (e = .normal ∨ e = .ret) ∧ a'.defers = [] ∧ ∃ v d, (results fn a'.tmps).run P w' = .ok v w' ∧ d.w = w' ∧ VR d r v ∧
      Below c.w.heap.size c.w w' ∧ d.B = c.B ∧ ∀ b, c.X b → d.X b) a c.w) : ASound P f args nb (.ret r []) := by
  refine ⟨hn, fun c us r' R W' hrun hr0 hfr hv => ?_⟩
  simp [AM.run] at hrun
  obtain ⟨rfl, rfl, rfl⟩ := hrun
  refine calls_of_wp hf hb ?_
  generalize hc1 : (⟨c.w, c.B, fun _ => none, fun _ => none, fun b => c.T b ∨ c.X b, fun _ => .no⟩ : Cx) = c1
  have w1 : c1.w = c.w := by rw [← hc1]
  have B1 : c1.B = c.B := by rw [← hc1]
  have σ1 : c1.σ = fun _ => none := by rw [← hc1]
  have φ1 : c1.φ = fun _ => none := by rw [← hc1]
  have X1 : ∀ b, c1.X b ↔ (c.T b ∨ c.X b) := by rw [← hc1]; intro b; rfl
  have T1 : ∀ b, ¬ c1.T b := by rintro b ⟨id, o, e1, _⟩; rw [σ1] at e1; cases e1
  have Tlt : ∀ b, c.T b → b < c.w.heap.size := by
    rintro b ⟨id, ⟨y, e, cells⟩, e1, e2⟩
    rcases hr0.row id y e cells e1 with ⟨g1, _⟩ | ⟨b', cs, g1, g2, _⟩
    · rw [e2] at g1; cases g1
    · rw [e2] at g1; cases g1; exact (Array.getElem?_eq_some_iff.1 g2).1
  have hx1 : ∀ b, c1.X b → b < c1.w.heap.size := by
    intro b hb
    rw [w1]
    rcases (X1 b).1 hb with h9 | h9
    · exact Tlt b h9
    · exact hr0.xlt b h9
  have hr1 : HR c1 := ⟨fun id y e cells hs => (by rw [σ1] at hs; cases hs), fun id id' b e1 => (by rw [σ1] at e1; exact absurd rfl e1), (by rw [B1, w1]; exact hr0.base), hx1⟩
  have ok1 : ∀ fr b, b < c.w.heap.size → c.ok fr b → c1.ok fr b := fun fr b _ ho => ⟨by rw [B1]; exact ho.1, T1 b, by rw [X1]; rintro (h9 | h9) <;> first | exact ho.2.1 h9 | exact ho.2.2 h9⟩
  have hv1 : VRt c1 args us := VRt.nw w1 ok1 hpure hv
  have hul := (VRt_iff.1 hv1).1
  have hrel : RelR fn.ntmps 0 No c1 ⟨envA args, fun _ => none, 0⟩ { tmps := us.toArray ++ Array.replicate (fn.ntmps - us.toArray.size) undef, defers := [] } := by
    refine ⟨rfl, by simp; omega, fun t => ?_, hr1, σ1, fun id _ hne => (by rw [φ1] at hne; exact absurd rfl hne)⟩
    simp only [envA]
    cases ha : args[t]? with
    | none => trivial
    | some x =>
      obtain ⟨u, e1, e2⟩ := (VRt_iff.1 hv1).2 t x ha
      have hlt : t < us.length := by rw [List.getElem?_eq_some_iff] at e1; exact e1.1
      have : (us.toArray ++ Array.replicate (fn.ntmps - us.toArray.size) undef).getD t undef = u := by
        rw [Array.getD_eq_getD_getElem?, Array.getElem?_append_left (by simpa using hlt)]
        simp [e1]
      rw [this]; exact e2
  have hw := h c1 _ (fun b => by rw [← hc1]) hrel
  rw [w1] at hw
  refine wp_mono hw ?_
  rintro e a' w' ⟨he, hdf, v, d, h1, rfl, h2, h3, h4, h5⟩
  have fin : VR ⟨d.w, c.B, c.φ, c.σ, c.X, c.Y⟩ r v := by
    refine VR.nw (c := d) (d := ⟨d.w, c.B, c.φ, c.σ, c.X, c.Y⟩) rfl (fun fr b hb ho => ?_) hr h2
    refine ⟨fun hf' => ?_, ?_, fun hx => ?_⟩
    · have := ho.1 hf'; rw [h4, B1] at this; exact this
    · rintro ⟨id, o, e1, e2⟩
      exact ho.2.2 (h5 b ((X1 b).2 (.inl ⟨id, o, e1, e2⟩)))
    · exact ho.2.2 (h5 b ((X1 b).2 (.inr hx)))
  have out : ∃ v' d', Ending.returned v = .returned v' ∧ d'.w = d.w ∧ VR d' r v' ∧ Then c nb [] d' := ⟨v, ⟨d.w, c.B, c.φ, c.σ, c.X, c.Y⟩, rfl, rfl, fin, Then.below hr0 nb h3⟩
  rcases he with rfl | rfl
  · exact ⟨hdf, v, h1, out⟩
  · exact ⟨hdf, v, h1, out⟩
end
end Go.Proofs.Ytfoeddmbhmfjcaa
/- Another bound of what is young, other blocks that are another's: the same moment in another context. -/
namespace Go.Proofs.Ytfoeddmbhmfjcaa
open Go.RowKit
mutual
/-- no names, nothing to write; each label is p's -/
def Lb (p : Bool → Prop) : AV → Prop
  | .any | .v _ | .wv _ => True
  | .fs fr cs _ | .fp fr cs _ | .us fr _ cs _ => p fr ∧ LbL p cs
  | .agg cs | .tup cs | .fn _ cs => LbL p cs
  | .os _ _ _ _ | .op _ _ | .ws _ _ | .wp _ => False
def LbL (p : Bool → Prop) : List AV → Prop
  | [] => True
  | a :: r => Lb p a ∧ LbL p r
end
theorem LbL_iff {p : Bool → Prop} : ∀ {l : List AV}, LbL p l ↔ ∀ a ∈ l, Lb p a
  | [] => by simp [LbL]
  | a :: r => by rw [LbL, LbL_iff (l := r)]; simp
section
variable {c d : Cx} {p : Bool → Prop}
mutual
theorem VR.lb (hw : d.w = c.w) (hk : ∀ fr b, p fr → b < c.w.heap.size → c.ok fr b → d.ok fr b) : ∀ {a : AV} {u : Value}, Lb p a → VR c a u → VR d a u
  | .any, u, _, _ => trivial
  | .v x, u, _, k => k
  | .wv q, u, _, k => k
  | .fs fr cs n, u, q, k => by
    obtain ⟨A, k', rfl, hk', hm⟩ := k
    refine ⟨A, k', rfl, hk', fun h0 => ?_⟩
    obtain ⟨b, off, rfl, e1, e2, e3⟩ := hm h0
    exact ⟨b, off, rfl, by rw [hw]; exact e1, hk fr b q.1 e1 e2, VRm.lb hw hk q.2 e3⟩
  | .fp fr cs n, u, q, k => by
    obtain ⟨b, off, rfl, e1, e2, e3⟩ := k
    exact ⟨b, off, rfl, by rw [hw]; exact e1, hk fr b q.1 e1 e2, VRm.lb hw hk q.2 e3⟩
  | .us fr e cs n, u, q, k => by
    obtain ⟨A, k', rfl, hk', hm⟩ := k
    refine ⟨A, k', rfl, hk', fun h0 => ?_⟩
    obtain ⟨b, rfl, e2, ⟨vs, e1⟩, e3⟩ := hm h0
    exact ⟨b, rfl, hk fr b q.1 (lt_of_heap e1) e2, ⟨vs, by rw [hw]; exact e1⟩, VRm.lb hw hk q.2 e3⟩
  | .agg l, u, q, k => by obtain ⟨us, rfl, k⟩ := k; exact ⟨us, rfl, VRl.lb hw hk q k⟩
  | .tup l, u, q, k => by obtain ⟨us, rfl, k⟩ := k; exact ⟨us, rfl, VRt.lb hw hk q k⟩
  | .fn f l, u, q, k => by obtain ⟨us, rfl, k⟩ := k; exact ⟨us, rfl, VRt.lb hw hk q k⟩
theorem VRm.lb (hw : d.w = c.w) (hk : ∀ fr b, p fr → b < c.w.heap.size → c.ok fr b → d.ok fr b) {b : Nat} : ∀ {cs : List AV} {off : Nat}, LbL p cs → VRm c b off cs → VRm d b off cs
  | [], _, _, _ => trivial
  | a :: r, off, q, k => by
    rw [VRm] at k ⊢
    obtain ⟨⟨u, h1, h2, h3⟩, h4⟩ := k
    exact ⟨⟨u, by rw [hw]; exact h1, h2, VR.lb hw hk q.1 h3⟩, VRm.lb hw hk q.2 h4⟩
theorem VRl.lb (hw : d.w = c.w) (hk : ∀ fr b, p fr → b < c.w.heap.size → c.ok fr b → d.ok fr b) : ∀ {cs : List AV} {us : List Value}, LbL p cs → VRl c cs us → VRl d cs us
  | [], _, _, k => k
  | a :: r, us, q, k => by
    rw [VRl] at k ⊢
    obtain ⟨u, us', rfl, h1, h2, h3⟩ := k
    exact ⟨u, us', rfl, h1, VR.lb hw hk q.1 h2, VRl.lb hw hk q.2 h3⟩
theorem VRt.lb (hw : d.w = c.w) (hk : ∀ fr b, p fr → b < c.w.heap.size → c.ok fr b → d.ok fr b) : ∀ {cs : List AV} {us : List Value}, LbL p cs → VRt c cs us → VRt d cs us
  | [], _, _, k => k
  | a :: r, us, q, k => by
    rw [VRt] at k ⊢
    obtain ⟨u, us', rfl, h2, h3⟩ := k
    exact ⟨u, us', rfl, VR.lb hw hk q.1 h2, VRt.lb hw hk q.2 h3⟩
end
/-- the same moment in another context: rows that are not young, other labels -/
theorem RelR.rebase {N nx : Nat} {st st' : ASt} {a : Act} (h : RelR N nx No c st a) (hw : d.w = c.w) (hφ : d.φ = c.φ) (hσ : d.σ = st'.σ) (hB : d.B ≤ d.w.heap.size) (hX : ∀ b, d.X b → b < d.w.heap.size)
    (he : ∀ t, st'.env t = .any ∨ ∀ u, VR c (st.env t) u → VR d (st'.env t) u)
    (hr : ∀ id y e cells, st'.σ id = some (.row y e cells) → y = false ∧ ∃ y0 cells0, st.σ id = some (.row y0 e cells0) ∧ cells.length = cells0.length ∧ ∀ b vs, c.φ id = some (some b) → c.w.heap[b]? = some (.cells vs e (0, 0)) → ¬ c.X b → ¬ d.X b ∧
      ∀ (j : Nat) x x0 u, cells[j]? = some x → cells0[j]? = some x0 → vs[j]? = some u → VR c x0 u → VR d x u) : RelR N nx No d st' a := by
  refine ⟨h.defers, h.size, fun t => ?_, ⟨fun id y e cells hs => ?_, fun id id' b h1 h2 h3 h4 => ?_, hB, hX⟩, hσ, fun id hid hne => h.fresh id hid (by rw [← hφ]; exact hne)⟩
  · rcases he t with h1 | h1
    · rw [h1]; trivial
    · exact h1 _ (h.env t)
  · rw [hσ] at hs
    obtain ⟨rfl, y0, cells0, h1, h2, h3⟩ := hr id y e cells hs
    rcases h.hr.row id y0 e cells0 (by rw [h.σ]; exact h1) with ⟨g1, g2⟩ | ⟨b, cs, g1, g2, g3, g4, g5⟩
    · refine .inl ⟨by rw [hφ]; exact g1, ?_⟩
      rw [g2] at h2
      exact List.eq_nil_of_length_eq_zero h2
    · refine .inr ⟨b, cs, by rw [hφ]; exact g1, by rw [hw]; exact g2, ⟨fun h => (by cases h), (h3 b cs g1 g2 g3.2).1⟩, by omega, fun j x hj => ?_⟩
      obtain ⟨x0, k1⟩ : ∃ x0, cells0[j]? = some x0 := ⟨_, List.getElem?_eq_getElem (by rw [← h2]; exact (List.getElem?_eq_some_iff.1 hj).1)⟩
      obtain ⟨u, k3, k4, k5⟩ := g5 j x0 k1
      exact ⟨u, k3, k4, (h3 b cs g1 g2 g3.2).2 j x x0 u hj k1 k3 k5⟩
  · rw [hσ] at h1 h2
    rw [hφ] at h3 h4
    have key : ∀ id, st'.σ id ≠ none → c.σ id ≠ none := by
      intro id h5
      obtain ⟨⟨y, e, cells⟩, ho⟩ := Option.ne_none_iff_exists'.1 h5
      obtain ⟨_, y0, cells0, h6, _⟩ := hr id y e cells ho
      rw [h.σ, h6]; simp
    exact h.hr.inj id id' b (key id h1) (key id' h2) h3 h4
end
section
variable {c d : Cx} {p : Bool → Prop}
mutual
/-- values without names stay, whatever becomes of the names -/
theorem VR.lbm (g : Grow c d) : ∀ {a : AV} {u : Value}, Lb p a → VR c a u → VR d a u
  | .any, u, _, _ => trivial
  | .v x, u, _, k => k
  | .wv q, u, _, k => k
  | .fs fr cs n, u, q, k => by
    obtain ⟨A, k', rfl, hk', hm⟩ := k
    refine ⟨A, k', rfl, hk', fun h0 => ?_⟩
    obtain ⟨b, off, rfl, e1, e2, e3⟩ := hm h0
    exact ⟨b, off, rfl, Nat.lt_of_lt_of_le e1 g.size, g.okk e2 e1, VRm.lbm g e2.2.1 e2.2.2 q.2 e3⟩
  | .fp fr cs n, u, q, k => by
    obtain ⟨b, off, rfl, e1, e2, e3⟩ := k
    exact ⟨b, off, rfl, Nat.lt_of_lt_of_le e1 g.size, g.okk e2 e1, VRm.lbm g e2.2.1 e2.2.2 q.2 e3⟩
  | .us fr e cs n, u, q, k => by
    obtain ⟨A, k', rfl, hk', hm⟩ := k
    refine ⟨A, k', rfl, hk', fun h0 => ?_⟩
    obtain ⟨b, rfl, e2, ⟨vs, e1⟩, e3⟩ := hm h0
    exact ⟨b, rfl, g.okk e2 (lt_of_heap e1), ⟨vs, (g.stay b (lt_of_heap e1) e2.2.1 (fun h => absurd h e2.2.2)).trans e1⟩, VRm.lbm g e2.2.1 e2.2.2 q.2 e3⟩
  | .agg l, u, q, k => by obtain ⟨us, rfl, k⟩ := k; exact ⟨us, rfl, VRl.lbm g q k⟩
  | .tup l, u, q, k => by obtain ⟨us, rfl, k⟩ := k; exact ⟨us, rfl, VRt.lbm g q k⟩
  | .fn f l, u, q, k => by obtain ⟨us, rfl, k⟩ := k; exact ⟨us, rfl, VRt.lbm g q k⟩
theorem VRm.lbm (g : Grow c d) {b : Nat} (hb : ¬ c.T b) (hx : ¬ c.X b) : ∀ {cs : List AV} {off : Nat}, LbL p cs → VRm c b off cs → VRm d b off cs
  | [], _, _, _ => trivial
  | a :: r, off, q, k => by
    rw [VRm] at k ⊢
    obtain ⟨⟨u, h1, h2, h3⟩, h4⟩ := k
    exact ⟨⟨u, (World.cell?_of_block (w := c.w) (g.stay b (cell_lt h1) hb (fun h => absurd h hx))).trans h1, h2, VR.lbm g q.1 h3⟩, VRm.lbm g hb hx q.2 h4⟩
theorem VRl.lbm (g : Grow c d) : ∀ {cs : List AV} {us : List Value}, LbL p cs → VRl c cs us → VRl d cs us
  | [], _, _, k => k
  | a :: r, us, q, k => by
    rw [VRl] at k ⊢
    obtain ⟨u, us', rfl, h1, h2, h3⟩ := k
    exact ⟨u, us', rfl, h1, VR.lbm g q.1 h2, VRl.lbm g q.2 h3⟩
theorem VRt.lbm (g : Grow c d) : ∀ {cs : List AV} {us : List Value}, LbL p cs → VRt c cs us → VRt d cs us
  | [], _, _, k => k
  | a :: r, us, q, k => by
    rw [VRt] at k ⊢
    obtain ⟨u, us', rfl, h2, h3⟩ := k
    exact ⟨u, us', rfl, VR.lbm g q.1 h2, VRt.lbm g q.2 h3⟩
end
end
/-- what was copied, as data that may be old -/
theorem impL_app {a a' b b' : List AV} (h : ImpL a a') (k : ImpL b b') : ImpL (a ++ b) (a' ++ b') := by
  induction a generalizing a' with
  | nil => cases a' with
    | nil => exact k
    | cons x r => exact h.elim
  | cons x r ih => cases a' with
    | nil => exact h.elim
    | cons y q => exact ⟨h.1, ih h.2⟩
theorem impL_refl : ∀ l : List AV, ImpL l l
  | [] => trivial
  | a :: r => ⟨Imp.refl a, impL_refl r⟩
theorem imp_uB (l : List Int) : Imp (uB true l) (fB false l) := Imp.us (fun h => by cases h) (impL_refl _)
theorem imp_uBools (l : List Bool) : Imp (uBools true l) (fBools false l) := Imp.us (fun h => by cases h) (impL_refl _)
theorem imp_ueBlks (l : List Blk) : ImpL (ueBlks true l) (eBlks false l) := by
  induction l with
  | nil => trivial
  | cons b l ih => exact impL_app (a := ueBlk true b) (a' := eBlk false b) ⟨Imp.refl _, Imp.refl _, imp_uB b.data, trivial⟩ ih
theorem imp_uBlks (l : List Blk) : Imp (uBlks true l) (fBlks false l) := Imp.us (fun h => by cases h) (imp_ueBlks l)
theorem imp_ueSegs (l : List Sg) : ImpL (ueSegs true l) (eSegs false l) := by
  induction l with
  | nil => trivial
  | cons g l ih => exact impL_app (a := ueSg true g) (a' := eSg false g) ⟨Imp.refl _, imp_uBlks g.blocks, trivial⟩ ih
theorem imp_uSegs (l : List Sg) : Imp (uSegs true l) (fSegs false l) := Imp.us (fun h => by cases h) (imp_ueSegs l)
theorem VR.ops {c d : Cx} (hφ : d.φ = c.φ) {l : List (Nat × AV)} (hl : ∀ p ∈ l, ∃ id, p.2 = .op id 0) {t : Nat} {u : Value} (h : VR c (envOf l t) u) : VR d (envOf l t) u := by
  induction l with
  | nil => trivial
  | cons p l ih =>
    obtain ⟨k, v⟩ := p
    simp only [envOf] at h ⊢
    split
    · rename_i e
      rw [if_pos e] at h
      obtain ⟨id, hv⟩ := hl (k, v) (by simp)
      simp only at hv
      subst hv
      obtain ⟨b, h1, h2⟩ := h
      exact ⟨b, by rw [hφ]; exact h1, h2⟩
    · rename_i e
      rw [if_neg e] at h
      exact ih (fun p hp => hl p (by simp [hp])) h
end Go.Proofs.Ytfoeddmbhmfjcaa
/- What was copied becomes another's, to be written. -/
namespace Go.Proofs.Ytfoeddmbhmfjcaa
open Go.RowKit
/-- a ghost: the same moment with another bound, other blocks of another's -/
abbrev Cx.gh (c : Cx) (B : Nat) (X : Nat → Prop) : Cx := ⟨c.w, B, c.φ, c.σ, X, c.Y⟩
theorem Grow.gh {c d : Cx} (g : Grow c d) (hY : ∀ b, c.Y b = .no) (B : Nat) (X : Nat → Prop) : Grow (c.gh B X) (d.gh B X) :=
  ⟨rfl, rfl, g.out, g.osE, g.tape, g.size, fun b h1 h2 _ => g.stay b h1 h2 (fun _ => hY b), g.held, g.shape, g.Y, fun b k sz _ _ h3 h4 _ => by
    have h5 : c.Y b = k := h3
    rw [hY b] at h5
    rcases h4 with rfl | rfl <;> cases h5⟩
def wB (l : List Int) : AV := .ws .u8 l.length
def wBools (l : List Bool) : AV := .ws .bl l.length
def weBlk (b : Blk) : List AV := [.v (.int .i64 b.own), .v (.int .i64 b.idx), .ws .u8 b.data.length]
def weBlks (l : List Blk) : List AV := l.flatMap weBlk
def wBlks (l : List Blk) : AV := .fs false (weBlks l) l.length
def weSg (s : Sg) : List AV := [.v (.int .i64 s.seq), .fs false (weBlks s.blocks) s.blocks.length]
def weSegs (l : List Sg) : List AV := l.flatMap weSg
def wSegs (l : List Sg) : AV := .fs false (weSegs l) l.length
section
variable {p : Nat → Prop}
theorem al_weBlk (b : Blk) : AlL p (weBlk b) := ⟨trivial, trivial, trivial, trivial⟩
theorem al_weBlks (l : List Blk) : AlL p (weBlks l) := AlL_flat al_weBlk l
theorem al_weSg (s : Sg) : AlL p (weSg s) := ⟨trivial, al_weBlks _, trivial⟩
theorem al_weSegs (l : List Sg) : AlL p (weSegs l) := AlL_flat al_weSg l
theorem ren_weBlks {ρ : Nat → Nat} (l : List Blk) : renL ρ (weBlks l) = weBlks l := renL_id (p := fun _ => False) (fun _ h => h.elim) (al_weBlks l)
theorem ren_weSegs {ρ : Nat → Nat} (l : List Sg) : renL ρ (weSegs l) = weSegs l := renL_id (p := fun _ => False) (fun _ h => h.elim) (al_weSegs l)
theorem len_weBlks (l : List Blk) : (weBlks l).length = l.length * 3 := flat_len (e := weBlk) (fun _ => rfl) l
theorem len_weSegs (l : List Sg) : (weSegs l).length = l.length * 2 := flat_len (e := weSg) (fun _ => rfl) l
theorem get_weBlks {l : List Blk} {i : Nat} {b : Blk} (h : l[i]? = some b) : (weBlks l)[i * 3]? = some (.v (.int .i64 b.own)) ∧ (weBlks l)[i * 3 + 1]? = some (.v (.int .i64 b.idx)) ∧ (weBlks l)[i * 3 + 2]? = some (.ws .u8 b.data.length) :=
  ⟨flat_get (e := weBlk) (k := 3) (fun _ => rfl) h 0 (by omega), flat_get (e := weBlk) (k := 3) (fun _ => rfl) h 1 (by omega), flat_get (e := weBlk) (k := 3) (fun _ => rfl) h 2 (by omega)⟩
theorem get_weSegs {l : List Sg} {i : Nat} {g : Sg} (h : l[i]? = some g) : (weSegs l)[i * 2]? = some (.v (.int .i64 g.seq)) ∧ (weSegs l)[i * 2 + 1]? = some (wBlks g.blocks) :=
  ⟨flat_get (e := weSg) (k := 2) (fun _ => rfl) h 0 (by omega), flat_get (e := weSg) (k := 2) (fun _ => rfl) h 1 (by omega)⟩
end
/-- a block of element type t, unmarked, between L and M, that is no held row's -/
def LeafT (c : Cx) (L M t b : Nat) : Prop := (L ≤ b ∧ b < M) ∧ ¬ c.T b ∧ ∃ vs, c.w.heap[b]? = some (.cells vs t (0, 0))
open Classical in
/-- the moment in which the copies' octets and bools are another's -/
noncomputable def Cx.give (c : Cx) (L M : Nat) (σ : Heap) : Cx :=
  ⟨c.w, c.B, c.φ, σ, fun b => c.X b ∨ LeafT c L M 5 b ∨ LeafT c L M 4 b, fun b => if LeafT c L M 5 b then .u8 else if LeafT c L M 4 b then .bl else .no⟩
section
variable {c : Cx} {L M : Nat} {σ : Heap}
abbrev Cx.seen (c : Cx) (L M : Nat) : Cx := c.gh L fun b => c.X b ∨ M ≤ b
theorem give_T (hσ : ∀ id, σ id ≠ none → c.σ id ≠ none) {b : Nat} (h : (c.give L M σ).T b) : c.T b := by
  obtain ⟨id, o, h1, h2⟩ := h
  obtain ⟨o', h3⟩ := Option.ne_none_iff_exists'.1 (hσ id (by show σ id ≠ none; rw [show σ id = some o from h1]; simp))
  exact ⟨id, o', h3, h2⟩
theorem seen_ok {b : Nat} (h : (c.seen L M).ok true b) : L ≤ b ∧ b < M ∧ ¬ c.T b ∧ ¬ c.X b :=
  ⟨h.1 rfl, Nat.lt_of_not_le (fun h1 => h.2.2 (.inr h1)), h.2.1, fun h1 => h.2.2 (.inl h1)⟩
theorem give_u8 (hσ : ∀ id, σ id ≠ none → c.σ id ≠ none) {l : List Int} {u : Value} (h : VR (c.seen L M) (uB true l) u) : VR (c.give L M σ) (wB l) u := by
  obtain ⟨A, k, rfl, hk, hm⟩ := h
  refine ⟨A, k, rfl, hk, fun h0 => ?_⟩
  obtain ⟨b, rfl, ho, ⟨vs, hv⟩, hc⟩ := hm h0
  obtain ⟨h1, h2, h3, h4⟩ := seen_ok ho
  have hl : LeafT c L M 5 b := ⟨⟨h1, h2⟩, h3, vs, hv⟩
  refine ⟨b, 0, rfl, .inr (.inl hl), fun ht => h3 (give_T hσ ht), if_pos hl, .inl rfl, l.length, ⟨vs, _, hv, ?_, fun j x hj hx => ?_⟩, by omega⟩
  · have hpos : 0 < l.length := by omega
    obtain ⟨u, k1, _⟩ := VRm_iff.1 hc (l.length - 1) (.v (.int .u8 (l[l.length - 1]'(by omega)))) (by unfold eB; rw [List.getElem?_map, List.getElem?_eq_getElem (by omega)]; rfl)
    have : (c.seen L M).w.cell? ⟨b, 0 + (l.length - 1), none⟩ = some u := k1
    have hv' : c.w.heap[b]? = some (.cells vs 5 (0, 0)) := hv
    simp [World.cell?, hv'] at this
    have := (Array.getElem?_eq_some_iff.1 this).1
    omega
  · obtain ⟨u, k1, _, k3⟩ := VRm_iff.1 hc j (.v (.int .u8 (l[j]'hj))) (by unfold eB; rw [List.getElem?_map, List.getElem?_eq_getElem hj]; rfl)
    have k1' : (c.seen L M).w.cell? ⟨b, 0 + j, none⟩ = some u := k1
    have hv' : c.w.heap[b]? = some (.cells vs 5 (0, 0)) := hv
    simp [World.cell?, hv'] at k1'
    have hx' : vs[j]? = some x := hx
    rw [k1'] at hx'
    cases hx'
    exact ⟨_, k3⟩
theorem give_bool (hσ : ∀ id, σ id ≠ none → c.σ id ≠ none) {l : List Bool} {u : Value} (h : VR (c.seen L M) (uBools true l) u) : VR (c.give L M σ) (wBools l) u := by
  obtain ⟨A, k, rfl, hk, hm⟩ := h
  refine ⟨A, k, rfl, hk, fun h0 => ?_⟩
  obtain ⟨b, rfl, ho, ⟨vs, hv⟩, hc⟩ := hm h0
  obtain ⟨h1, h2, h3, h4⟩ := seen_ok ho
  have hv' : c.w.heap[b]? = some (.cells vs 4 (0, 0)) := hv
  have hl : LeafT c L M 4 b := ⟨⟨h1, h2⟩, h3, vs, hv⟩
  have hn : ¬ LeafT c L M 5 b := by
    rintro ⟨_, _, vs', hv2⟩
    rw [hv'] at hv2
    simp at hv2
  refine ⟨b, 0, rfl, .inr (.inr hl), fun ht => h3 (give_T hσ ht), (if_neg hn).trans (if_pos hl), .inr rfl, l.length, ⟨vs, _, hv, ?_, fun j x hj hx => ?_⟩, by omega⟩
  · have hpos : 0 < l.length := by omega
    obtain ⟨u, k1, _⟩ := VRm_iff.1 hc (l.length - 1) (.v (.bool (l[l.length - 1]'(by omega)))) (by unfold eBools; rw [List.getElem?_map, List.getElem?_eq_getElem (by omega)]; rfl)
    have : (c.seen L M).w.cell? ⟨b, 0 + (l.length - 1), none⟩ = some u := k1
    simp [World.cell?, hv'] at this
    have := (Array.getElem?_eq_some_iff.1 this).1
    omega
  · obtain ⟨u, k1, _, k3⟩ := VRm_iff.1 hc j (.v (.bool (l[j]'hj))) (by unfold eBools; rw [List.getElem?_map, List.getElem?_eq_getElem hj]; rfl)
    have k1' : (c.seen L M).w.cell? ⟨b, 0 + j, none⟩ = some u := k1
    simp [World.cell?, hv'] at k1'
    have hx' : vs[j]? = some x := hx
    rw [k1'] at hx'
    cases hx'
    exact ⟨_, k3⟩
/-- an array of structs stays as it is -/
theorem give_us (hσ : ∀ id, σ id ≠ none → c.σ id ≠ none) {t : Nat} (ht1 : t ≠ 5) (ht2 : t ≠ 4) {cs cs' : List AV} {n : Nat} (hl : cs'.length = cs.length) (hcs : ∀ (j : Nat) a', cs'[j]? = some a' → ∃ a, cs[j]? = some a ∧ ∀ u, VR (c.seen L M) a u → VR (c.give L M σ) a' u) {u : Value}
    (h : VR (c.seen L M) (.us true t cs n) u) : VR (c.give L M σ) (.fs false cs' n) u := by
  obtain ⟨A, k, rfl, hk, hm⟩ := h
  refine ⟨A, k, rfl, hk, fun h0 => ?_⟩
  obtain ⟨b, rfl, ho, ⟨vs, hv⟩, hc⟩ := hm h0
  obtain ⟨h1, h2, h3, h4⟩ := seen_ok ho
  have hv' : c.w.heap[b]? = some (.cells vs t (0, 0)) := hv
  refine ⟨b, 0, rfl, lt_of_heap hv', ⟨fun h => (by cases h), fun hT => h3 (give_T hσ hT), ?_⟩, VRm_iff.2 fun j a' hj => ?_⟩
  · rintro (h | ⟨_, _, vs', h⟩ | ⟨_, _, vs', h⟩)
    · exact h4 h
    · rw [hv'] at h; simp at h; exact ht1 h.2
    · rw [hv'] at h; simp at h; exact ht2 h.2
  · obtain ⟨a, k1, k2⟩ := hcs j a' hj
    obtain ⟨u, k3, k4, k5⟩ := VRm_iff.1 hc j a k1
    exact ⟨u, k3, k4, k2 u k5⟩
/-- what lies at or above M, and is young, stays as it is -/
theorem give_true (hσ : ∀ id, σ id ≠ none → c.σ id ≠ none) (hB : M ≤ c.B) {a : AV} {u : Value} (ha : Lb (fun fr => fr = true) a) (h : VR c a u) : VR (c.give L M σ) a u := by
  refine VR.lb (c := c) (d := c.give L M σ) rfl (fun fr b hf hb ho => ?_) ha h
  subst hf
  refine ⟨ho.1, fun hT => ho.2.1 (give_T hσ hT), ?_⟩
  have hge := ho.1 rfl
  rintro (h | ⟨⟨_, h⟩, _⟩ | ⟨⟨_, h⟩, _⟩)
  · exact ho.2.2 h
  · omega
  · omega
end
end Go.Proofs.Ytfoeddmbhmfjcaa
/- Functions of the program, compiled. -/
namespace Go.Proofs.Ytfoeddmbhmfjcaa
set_option maxRecDepth 100000
def rest_5 : AC :=
(.seq (.reg false [⟨some 57, .foff 2 (.tmp 6), none, [6], []⟩,
    ⟨some 58, .load false 1 (.tmp 57), none, [57], []⟩,
    ⟨some 59, .call 32 [(.tmp 58)], none, [58], []⟩] [5, 7, 8, 9, 10, 11, 13, 14, 16])
(.seq (.seq (.reg false [⟨some 17, .mv (.const (.int .i64 (0))), none, [], []⟩] [5, 7, 8, 9, 10, 11, 13, 14, 16, 17])
(.block 0 (.loop (.seq (.seq (.reg false [⟨some 60, .mv (.tmp 17), none, [17], []⟩,
    ⟨some 61, .foff 0 (.tmp 5), none, [5], []⟩,
    ⟨some 62, .load false 1 (.tmp 61), none, [61], []⟩,
    ⟨some 63, .len false (.tmp 62), none, [62], []⟩,
    ⟨some 64, .bin .lss (.tmp 60) (.tmp 63), none, [60, 63], []⟩] [5, 7, 8, 9, 10, 11, 13, 14, 16, 17, 64])
(.cond (.tmp 64)
.skip
(.exit 0)))
(.seq (.block 1 (.seq (.reg false [⟨some 18, .mv (.const (.int .i64 (0))), none, [], []⟩] [5, 7, 8, 9, 10, 11, 13, 14, 16, 17, 18])
(.block 2 (.loop (.seq (.seq (.reg false [⟨some 67, .mv (.tmp 18), none, [18], []⟩,
    ⟨some 68, .foff 0 (.tmp 5), none, [5], []⟩,
    ⟨some 69, .load false 1 (.tmp 68), none, [68], []⟩,
    ⟨some 70, .mv (.tmp 17), none, [17], []⟩,
    ⟨some 71, .idx 2 (.tmp 69) (.tmp 70), none, [69, 70], []⟩,
    ⟨some 72, .foff 1 (.tmp 71), none, [71], []⟩,
    ⟨some 73, .load false 1 (.tmp 72), none, [72], []⟩,
    ⟨some 74, .len false (.tmp 73), none, [73], []⟩,
    ⟨some 75, .bin .lss (.tmp 67) (.tmp 74), none, [67, 74], []⟩] [5, 7, 8, 9, 10, 11, 13, 14, 16, 17, 18, 75])
(.cond (.tmp 75)
.skip
(.exit 2)))
(.seq (.block 3 (.reg false [⟨some 78, .foff 0 (.tmp 5), none, [5], []⟩,
    ⟨some 79, .load false 1 (.tmp 78), none, [78], []⟩,
    ⟨some 80, .mv (.tmp 17), none, [17], []⟩,
    ⟨some 81, .idx 2 (.tmp 79) (.tmp 80), none, [79, 80], []⟩,
    ⟨some 82, .foff 1 (.tmp 81), none, [81], []⟩,
    ⟨some 83, .load false 1 (.tmp 82), none, [82], []⟩,
    ⟨some 84, .mv (.tmp 18), none, [18], []⟩,
    ⟨some 85, .idx 3 (.tmp 83) (.tmp 84), none, [83, 84], []⟩,
    ⟨some 86, .foff 2 (.tmp 85), none, [85], []⟩,
    ⟨some 87, .load false 1 (.tmp 86), none, [86], []⟩,
    ⟨some 88, .call 32 [(.tmp 87)], none, [87], []⟩] [5, 7, 8, 9, 10, 11, 13, 14, 16, 17, 18]))
(.reg false [⟨some 76, .mv (.tmp 18), none, [18], []⟩,
    ⟨some 77, .bin .add (.tmp 76) (.const (.int .i64 (1))), none, [76], []⟩,
    ⟨some 18, .mv (.tmp 77), none, [77], []⟩] [5, 7, 8, 9, 10, 11, 13, 14, 16, 17, 18])))))))
(.reg false [⟨some 65, .mv (.tmp 17), none, [17], []⟩,
    ⟨some 66, .bin .add (.tmp 65) (.const (.int .i64 (1))), none, [65], []⟩,
    ⟨some 17, .mv (.tmp 66), none, [66], []⟩] [5, 7, 8, 9, 10, 11, 13, 14, 16, 17]))))))
(.seq (.seq (.reg false [⟨some 19, .mv (.const (.int .i64 (0))), none, [], []⟩] [5, 7, 8, 9, 10, 11, 13, 14, 16, 19])
(.block 4 (.loop (.seq (.seq (.reg false [⟨some 89, .mv (.tmp 19), none, [19], []⟩,
    ⟨some 90, .foff 2 (.tmp 5), none, [5], []⟩,
    ⟨some 91, .load false 1 (.tmp 90), none, [90], []⟩,
    ⟨some 92, .len false (.tmp 91), none, [91], []⟩,
    ⟨some 93, .bin .lss (.tmp 89) (.tmp 92), none, [89, 92], []⟩] [5, 7, 8, 9, 10, 11, 13, 14, 16, 19, 93])
(.cond (.tmp 93)
.skip
(.exit 4)))
(.seq (.block 5 (.reg false [⟨some 96, .foff 2 (.tmp 5), none, [5], []⟩,
    ⟨some 97, .load false 1 (.tmp 96), none, [96], []⟩,
    ⟨some 98, .mv (.tmp 19), none, [19], []⟩,
    ⟨some 99, .idx 3 (.tmp 97) (.tmp 98), none, [97, 98], []⟩,
    ⟨some 100, .foff 2 (.tmp 99), none, [99], []⟩,
    ⟨some 101, .load false 1 (.tmp 100), none, [100], []⟩,
    ⟨some 102, .call 32 [(.tmp 101)], none, [101], []⟩] [5, 7, 8, 9, 10, 11, 13, 14, 16, 19]))
(.reg false [⟨some 94, .mv (.tmp 19), none, [19], []⟩,
    ⟨some 95, .bin .add (.tmp 94) (.const (.int .i64 (1))), none, [94], []⟩,
    ⟨some 19, .mv (.tmp 95), none, [95], []⟩] [5, 7, 8, 9, 10, 11, 13, 14, 16, 19]))))))
(.seq (.seq (.reg false [⟨some 20, .mv (.const (.int .i64 (0))), none, [], []⟩] [5, 7, 8, 9, 10, 11, 13, 14, 16, 20])
(.block 6 (.loop (.seq (.seq (.reg false [⟨some 103, .mv (.tmp 20), none, [20], []⟩,
    ⟨some 104, .foff 1 (.tmp 5), none, [5], []⟩,
    ⟨some 105, .load false 1 (.tmp 104), none, [104], []⟩,
    ⟨some 106, .len false (.tmp 105), none, [105], []⟩,
    ⟨some 107, .bin .lss (.tmp 103) (.tmp 106), none, [103, 106], []⟩] [5, 7, 8, 9, 10, 11, 13, 14, 16, 20, 107])
(.cond (.tmp 107)
.skip
(.exit 6)))
(.seq (.block 7 (.reg true [⟨some 110, .foff 1 (.tmp 5), none, [5], []⟩,
    ⟨some 111, .load false 1 (.tmp 110), none, [110], [0]⟩,
    ⟨some 112, .mv (.tmp 20), none, [20], []⟩,
    ⟨some 113, .foff 1 (.tmp 5), none, [5], []⟩,
    ⟨some 114, .load false 1 (.tmp 113), none, [113], [3]⟩,
    ⟨some 115, .mv (.tmp 20), none, [20], []⟩,
    ⟨some 116, .idx 1 (.tmp 114) (.tmp 115), none, [114, 115], [4, 5, 3]⟩,
    ⟨some 117, .load false 1 (.tmp 116), none, [116], [6, 4, 5, 3]⟩,
    ⟨some 118, .un .not (.tmp 117), none, [117], [7, 6, 4, 5, 3]⟩,
    ⟨some 119, .idx 1 (.tmp 111) (.tmp 112), none, [111, 112], [1, 2, 0, 3, 4, 5, 6, 7, 8]⟩,
    ⟨none, .store 1 (.tmp 119) (.tmp 118), none, [119, 118], [9, 8, 0, 1, 2, 3, 4, 5, 6, 7]⟩] [5, 7, 8, 9, 10, 11, 13, 14, 16, 20]))
(.reg false [⟨some 108, .mv (.tmp 20), none, [20], []⟩,
    ⟨some 109, .bin .add (.tmp 108) (.const (.int .i64 (1))), none, [108], []⟩,
    ⟨some 20, .mv (.tmp 109), none, [109], []⟩] [5, 7, 8, 9, 10, 11, 13, 14, 16, 20]))))))
(.seq (.reg false [⟨some 120, .mv (.tmp 8), none, [8], []⟩,
    ⟨some 121, .call 26 [(.tmp 120)], none, [120], []⟩,
    ⟨some 122, .mv (.tmp 10), none, [10], []⟩,
    ⟨some 123, .bin .eql (.tmp 121) (.tmp 122), none, [121, 122], []⟩,
    ⟨some 124, .mv (.tmp 123), none, [123], []⟩,
    ⟨some 125, .mv (.tmp 13), some (124, true), [13, 124], []⟩,
    ⟨some 126, .call 26 [(.tmp 125)], some (124, true), [125, 124], []⟩,
    ⟨some 127, .mv (.tmp 16), some (124, true), [16, 124], []⟩,
    ⟨some 128, .bin .eql (.tmp 126) (.tmp 127), some (124, true), [126, 127, 124], []⟩,
    ⟨some 129, .pick (.tmp 124) (.tmp 128) (.const (.bool false)), none, [124, 128], []⟩,
    ⟨some 130, .mv (.tmp 129), none, [129], []⟩,
    ⟨some 131, .load true 4 (.tmp 7), some (130, true), [7, 130], []⟩,
    ⟨some 132, .load true 4 (.tmp 9), some (130, true), [9, 130], []⟩,
    ⟨some 133, .call 25 [(.tmp 131), (.tmp 132)], some (130, true), [131, 132, 130], []⟩,
    ⟨some 134, .bin .eql (.tmp 133) (.const (.int .i64 (0))), some (130, true), [133, 130], []⟩,
    ⟨some 135, .pick (.tmp 130) (.tmp 134) (.const (.bool false)), none, [130, 134], []⟩,
    ⟨some 136, .mv (.tmp 135), none, [135], []⟩,
    ⟨some 137, .load true 4 (.tmp 11), some (136, true), [11, 136], []⟩,
    ⟨some 138, .load true 4 (.tmp 14), some (136, true), [14, 136], []⟩,
    ⟨some 139, .call 25 [(.tmp 137), (.tmp 138)], some (136, true), [137, 138, 136], []⟩,
    ⟨some 140, .bin .eql (.tmp 139) (.const (.int .i64 (0))), some (136, true), [139, 136], []⟩,
    ⟨some 141, .pick (.tmp 136) (.tmp 140) (.const (.bool false)), none, [136, 140], []⟩,
    ⟨some 4, .mv (.tmp 141), none, [141], []⟩] [4])
.ret)))))
def r7_5 : AC :=
(.reg false [⟨some 52, .load true 4 (.tmp 2), none, [2], []⟩,
    ⟨some 53, .call 20 [(.tmp 52)], none, [52], []⟩,
    ⟨some 51, .mv (.tmp 53), none, [53], []⟩,
    ⟨some 54, .ext 0 (.tmp 51), none, [51], []⟩,
    ⟨some 55, .ext 1 (.tmp 51), none, [51], []⟩,
    ⟨some 56, .ext 2 (.tmp 51), none, [51], []⟩,
    ⟨some 14, .new 32 [(.slice none 0 0), (.slice none 0 0), (.slice none 0 0), (.int .i64 (0))], none, [], []⟩,
    ⟨none, .store 4 (.tmp 14) (.tmp 54), none, [14, 54], []⟩,
    ⟨some 15, .mv (.tmp 55), none, [55], []⟩,
    ⟨some 16, .mv (.tmp 56), none, [56], []⟩] [5, 6, 7, 8, 9, 10, 11, 13, 14, 16])
def r6_5 : AC :=
(.reg false [⟨some 46, .load true 4 (.tmp 5), none, [5], []⟩,
    ⟨some 47, .call 19 [(.tmp 46)], none, [46], []⟩,
    ⟨some 45, .mv (.tmp 47), none, [47], []⟩,
    ⟨some 48, .ext 0 (.tmp 45), none, [45], []⟩,
    ⟨some 49, .ext 1 (.tmp 45), none, [45], []⟩,
    ⟨some 50, .ext 2 (.tmp 45), none, [45], []⟩,
    ⟨some 11, .new 36 [(.slice none 0 0), (.slice none 0 0), (.slice none 0 0), (.int .i64 (0))], none, [], []⟩,
    ⟨none, .store 4 (.tmp 11) (.tmp 48), none, [11, 48], []⟩,
    ⟨some 12, .mv (.tmp 49), none, [49], []⟩,
    ⟨some 13, .mv (.tmp 50), none, [50], []⟩] [2, 5, 6, 7, 8, 9, 10, 11, 13])
def r5_5 : AC :=
(.reg false [⟨some 40, .load true 4 (.tmp 2), none, [2], []⟩,
    ⟨some 41, .load true 3 (.tmp 3), none, [3], []⟩,
    ⟨some 42, .call 31 [(.tmp 40), (.tmp 41)], none, [40, 41], []⟩,
    ⟨some 39, .mv (.tmp 42), none, [42], []⟩,
    ⟨some 43, .ext 0 (.tmp 39), none, [39], []⟩,
    ⟨some 44, .ext 1 (.tmp 39), none, [39], []⟩,
    ⟨some 9, .new 32 [(.slice none 0 0), (.slice none 0 0), (.slice none 0 0), (.int .i64 (0))], none, [], []⟩,
    ⟨none, .store 4 (.tmp 9) (.tmp 43), none, [9, 43], []⟩,
    ⟨some 10, .mv (.tmp 44), none, [44], []⟩] [2, 5, 6, 7, 8, 9, 10])
def r4_5 : AC :=
(.reg false [⟨some 34, .load true 4 (.tmp 5), none, [5], []⟩,
    ⟨some 35, .load true 3 (.tmp 6), none, [6], []⟩,
    ⟨some 36, .call 30 [(.tmp 34), (.tmp 35)], none, [34, 35], []⟩,
    ⟨some 33, .mv (.tmp 36), none, [36], []⟩,
    ⟨some 37, .ext 0 (.tmp 33), none, [33], []⟩,
    ⟨some 38, .ext 1 (.tmp 33), none, [33], []⟩,
    ⟨some 7, .new 36 [(.slice none 0 0), (.slice none 0 0), (.slice none 0 0), (.int .i64 (0))], none, [], []⟩,
    ⟨none, .store 4 (.tmp 7) (.tmp 37), none, [7, 37], []⟩,
    ⟨some 8, .mv (.tmp 38), none, [38], []⟩] [2, 3, 5, 6, 7, 8])
def r3_5 : AC :=
(.reg true [⟨some 25, .foff 0 (.tmp 3), none, [3], []⟩,
    ⟨some 26, .load false 1 (.tmp 25), none, [25], [0]⟩,
    ⟨some 27, .foff 1 (.tmp 3), none, [3], []⟩,
    ⟨some 28, .load false 1 (.tmp 27), none, [27], [2]⟩,
    ⟨some 29, .foff 2 (.tmp 3), none, [3], []⟩,
    ⟨some 30, .load false 1 (.tmp 29), none, [29], [4]⟩,
    ⟨some 31, .call 29 [(.tmp 30)], none, [30], [5, 4]⟩,
    ⟨some 32, .build [(.int .i64 (0)), (.int .i64 (0)), (.slice none 0 0)] [(0, 1, (.tmp 26)), (1, 1, (.tmp 28)), (2, 1, (.tmp 31))], none, [26, 28, 31], [1, 3, 6, 0, 2, 5, 4]⟩,
    ⟨some 6, .new 57 [(.int .i64 (0)), (.int .i64 (0)), (.slice none 0 0)], none, [], []⟩,
    ⟨none, .store 3 (.tmp 6) (.tmp 32), none, [6, 32], [8, 7, 6, 0, 1, 2, 3, 4, 5]⟩] [2, 3, 5, 6])
def r2_5 : AC :=
(.reg false [⟨some 23, .load true 4 (.tmp 2), none, [2], []⟩,
    ⟨some 24, .call 18 [(.tmp 23)], none, [23], []⟩,
    ⟨some 5, .new 36 [(.slice none 0 0), (.slice none 0 0), (.slice none 0 0), (.int .i64 (0))], none, [], []⟩,
    ⟨none, .store 4 (.tmp 5) (.tmp 24), none, [5, 24], []⟩] [2, 3, 5])
def r1_5 : AC :=
(.seq (.reg false [⟨some 21, .call 28 [], none, [], []⟩,
    ⟨some 22, .un .not (.tmp 21), none, [21], []⟩] [2, 3, 22])
(.cond (.tmp 22)
(.seq (.reg false [⟨some 4, .mv (.const (.bool false)), none, [], []⟩] [4])
.ret)
.skip))
def r0_5 : AC :=
(.reg false [⟨some 2, .box 32 (.tmp 0), none, [0], []⟩,
    ⟨some 3, .box 55 (.tmp 1), none, [1], []⟩,
    ⟨some 4, .mv (.const (.bool false)), none, [], []⟩] [2, 3])
def ac_5 : AC :=
(.seq (.weak r0_5)
(.seq (.weak r1_5)
(.seq (.weak r2_5)
(.seq (.weak r3_5)
(.seq (.weak r4_5)
(.seq (.weak r5_5)
(.seq (.weak r6_5)
(.seq (.weak r7_5)
(.weak rest_5)))))))))
theorem ok_5 : FnOk Try.prog 5 142 ac_5 [.tmp 4] := ⟨Try.f5, Try.func5, by kernel_rfl, by kernel_rfl, by kernel_rfl, by kernel_rfl, by kernel_rfl⟩
end Go.Proofs.Ytfoeddmbhmfjcaa
/- LogOwn: all is spoilt that was handed in; what was answered stays. -/
namespace Go.Proofs.Ytfoeddmbhmfjcaa
open Go.RowKit
set_option maxRecDepth 100000
theorem spoil_spec (n : Nat) (nb : Nat) (hn : n < 4611686018427387904) : ASound Try.prog 32 [.ws .u8 n] nb (.ret (.tup []) []) := by
  refine ok_32.sound (by simp) ⟨trivial, trivial⟩ ?_
  simp only [ac_32, SS, boxA, cellsOf, foffA, loadA, ldA, idxA, fldA, binA, binVal, isSh, intVal, lenA, slenA, pickA, storeA, setN, getN, fillA, extA, beqA, eqsA, eqL, isnilA, unA, unVal, convA, nilA, sconvA, b2sA, b2sOf, bytesOf, mmA, srcA, appA, sliceA, lohi, mkslA, envA, ↓reduceIte, Nat.reduceEqDiff, Nat.reduceAdd, Nat.reduceMul, reduceCtorEq, Nat.reduceLeDiff, fB, fBools, fBlks, fSegs, aBlk, aSg, aSt, stRow, List.drop_zero, List.take_succ_cons, List.take_zero, List.take_nil, Nat.mul_one, Nat.one_mul, List.cons_append, List.nil_append]
  refine AWc.family (fun (k : Nat) => (⟨envOf [(0, .ws .u8 n), (2, .v (.int .i64 (k : Int)))], heapOf [], 1⟩ : ASt)) (fun k => k ≤ n) (fun k => n - k) 0 (Nat.zero_le _) ?_ ?_
  · refine Weak.calc [] (by decide) ?_ ?_ <;> simp [tk_B, tk_Bools, tk_Blks, tk_Segs, AlL_append, renL_append, okL, okH, rowIs, okV, okHV, rowVt, vtL, okF, okHF, rowFz, fzL, fzV, fzOne, nilLike, oldLike, rn, s_envOf, s_envOf0, s_heapOf, s_heapOf0, s_put, s_put0, s_put1, s_app0, s_app1, Al, AlL, ren, renL, al_B, al_Bools, al_Blks, al_Segs, ren_B, ren_Bools, ren_Blks, ren_Segs, fB, fBools, fBlks, fSegs]
  · intro k hk
    by_cases hlt : k < n
    · have e1 : ((k : Int) < (n : Int)) := by omega
      have e0 : (0 : Int) ≤ (k : Int) := by omega
      simp only [e1, e0, SS, boxA, cellsOf, foffA, loadA, ldA, idxA, fldA, binA, binVal, isSh, intVal, lenA, slenA, pickA, storeA, setN, getN, fillA, extA, beqA, eqsA, eqL, isnilA, unA, unVal, convA, nilA, sconvA, b2sA, b2sOf, bytesOf, mmA, srcA, appA, sliceA, lohi, mkslA, envA, ↓reduceIte, Nat.reduceEqDiff, Nat.reduceAdd, Nat.reduceMul, reduceCtorEq, Nat.reduceLeDiff, fB, fBools, fBlks, fSegs, aBlk, aSg, aSt, stRow, List.drop_zero, List.take_succ_cons, List.take_zero, List.take_nil, Nat.mul_one, Nat.one_mul, List.cons_append, List.nil_append]
      rw [if_pos (show isXor .xor = true from rfl)]
      refine famC_next (k + 1) (by omega) (by omega) ?_
      refine Weak.calc [] (by decide) ?_ ?_ <;> simp [tk_B, tk_Bools, tk_Blks, tk_Segs, AlL_append, renL_append, okL, okH, rowIs, okV, okHV, rowVt, vtL, okF, okHF, rowFz, fzL, fzV, fzOne, nilLike, oldLike, rn, s_envOf, s_envOf0, s_heapOf, s_heapOf0, s_put, s_put0, s_put1, s_app0, s_app1, Al, AlL, ren, renL, al_B, al_Bools, al_Blks, al_Segs, ren_B, ren_Bools, ren_Blks, ren_Segs, fB, fBools, fBlks, fSegs, wrap64 (x := (k : Int) + 1) (by omega)]
    · have e1 : ¬ ((k : Int) < (n : Int)) := by omega
      simp only [e1, SS, boxA, cellsOf, foffA, loadA, ldA, idxA, fldA, binA, binVal, isSh, intVal, lenA, slenA, pickA, storeA, setN, getN, fillA, extA, beqA, eqsA, eqL, isnilA, unA, unVal, convA, nilA, sconvA, b2sA, b2sOf, bytesOf, mmA, srcA, appA, sliceA, lohi, mkslA, envA, ↓reduceIte, Nat.reduceEqDiff, Nat.reduceAdd, Nat.reduceMul, reduceCtorEq, Nat.reduceLeDiff, fB, fBools, fBlks, fSegs, aBlk, aSg, aSt, stRow, List.drop_zero, List.take_succ_cons, List.take_zero, List.take_nil, Nat.mul_one, Nat.one_mul, List.cons_append, List.nil_append]
      exact Ends.data (.inl rfl) (by simp [resL, resOne, tupOf, getN, s_envOf, s_envOf0, s_heapOf, s_heapOf0, s_put1, s_app0, s_app1]) trivial
abbrev cSt (fr : Bool) (s : St) : List AV := [fSegs fr s.segs, fBools fr s.held, fBlks fr s.opn, .v (.int .i64 s.next)]
abbrev O_h (s a d : St) : List (Nat × AObj) := [(0, .row false 36 [wSegs s.segs, wBools s.held, wBlks s.opn, .v (.int .i64 s.next)]), (1, .row false 36 (cSt true a)), (2, .row false 32 (cSt true a)), (3, .row false 36 (cSt true d)), (4, .row false 32 (cSt true d))]
abbrev O_0 (s a d : St) (b : Blk) (e g : Int) : ASt := ⟨envOf [(5, .op 0 0), (6, .op 5 0), (7, .op 1 0), (8, .v (.int .i64 e)), (9, .op 2 0), (10, .v (.int .i64 e)), (11, .op 3 0), (13, .v (.int .i64 g)), (14, .op 4 0), (16, .v (.int .i64 g))],
  heapOf (O_h s a d ++ [(5, .row false 57 [.v (.int .i64 b.own), .v (.int .i64 b.idx), wB b.data])]), 6⟩
abbrev O_1 (s a d : St) (e g : Int) (k : Nat) : ASt := ⟨envOf [(5, .op 0 0), (7, .op 1 0), (8, .v (.int .i64 e)), (9, .op 2 0), (10, .v (.int .i64 e)), (11, .op 3 0), (13, .v (.int .i64 g)), (14, .op 4 0), (16, .v (.int .i64 g)), (17, .v (.int .i64 k))], heapOf (O_h s a d), 5⟩
abbrev O_2 (s a d : St) (e g : Int) (k j : Nat) : ASt := ⟨envOf [(5, .op 0 0), (7, .op 1 0), (8, .v (.int .i64 e)), (9, .op 2 0), (10, .v (.int .i64 e)), (11, .op 3 0), (13, .v (.int .i64 g)), (14, .op 4 0), (16, .v (.int .i64 g)), (17, .v (.int .i64 k)), (18, .v (.int .i64 j))], heapOf (O_h s a d), 5⟩
abbrev O_4 (s a d : St) (e g : Int) (k : Nat) : ASt := ⟨envOf [(5, .op 0 0), (7, .op 1 0), (8, .v (.int .i64 e)), (9, .op 2 0), (10, .v (.int .i64 e)), (11, .op 3 0), (13, .v (.int .i64 g)), (14, .op 4 0), (16, .v (.int .i64 g)), (19, .v (.int .i64 k))], heapOf (O_h s a d), 5⟩
abbrev O_6 (s a d : St) (e g : Int) (k : Nat) : ASt := ⟨envOf [(5, .op 0 0), (7, .op 1 0), (8, .v (.int .i64 e)), (9, .op 2 0), (10, .v (.int .i64 e)), (11, .op 3 0), (13, .v (.int .i64 g)), (14, .op 4 0), (16, .v (.int .i64 g)), (20, .v (.int .i64 k))], heapOf (O_h s a d), 5⟩
theorem ren_wBlks (ρ : Nat → Nat) (l : List Blk) : ren ρ (wBlks l) = wBlks l := by simp [wBlks, ren, ren_weBlks]
set_option maxHeartbeats 4000000 in
theorem rest_own (s a d : St) (b : Blk) (e g : Int) (hs : SZ s) (hb : b.data.length ≤ 140737488355328) (ha : SZ a) (hd : SZ d) : wpC Try.prog 142 0 rest_5 (O_0 s a d b e g) fun x t => (x = .normal ∧ False ∧ Weak 142 0 t (⟨envOf [], heapOf [], 1⟩ : ASt)) ∨ (x = .ret ∧ True ∧ Weak 142 0 t (⟨envOf [(4, .v (.bool true))], heapOf [], 1⟩ : ASt)) := by
  simp only [rest_5, O_0, O_h, cSt, wSegs, wBools, wBlks, wB, SS, boxA, cellsOf, foffA, loadA, ldA, idxA, fldA, binA, binVal, isSh, intVal, lenA, slenA, pickA, storeA, setN, getN, fillA, extA, beqA, eqsA, eqL, isnilA, unA, unVal, convA, nilA, sconvA, b2sA, b2sOf, bytesOf, mmA, srcA, appA, sliceA, lohi, mkslA, envA, ↓reduceIte, Nat.reduceEqDiff, Nat.reduceAdd, Nat.reduceMul, reduceCtorEq, Nat.reduceLeDiff, fB, fBools, fBlks, fSegs, aBlk, aSg, aSt, stRow, List.drop_zero, List.take_succ_cons, List.take_zero, List.take_nil, Nat.mul_one, Nat.one_mul, List.cons_append, List.nil_append]
  refine ⟨_, spoil_spec b.data.length _ (by omega), ?_⟩
  simp only [SS, boxA, cellsOf, foffA, loadA, ldA, idxA, fldA, binA, binVal, isSh, intVal, lenA, slenA, pickA, storeA, setN, getN, fillA, extA, beqA, eqsA, eqL, isnilA, unA, unVal, convA, nilA, sconvA, b2sA, b2sOf, bytesOf, mmA, srcA, appA, sliceA, lohi, mkslA, envA, ↓reduceIte, Nat.reduceEqDiff, Nat.reduceAdd, Nat.reduceMul, reduceCtorEq, Nat.reduceLeDiff, fB, fBools, fBlks, fSegs, aBlk, aSg, aSt, stRow, List.drop_zero, List.take_succ_cons, List.take_zero, List.take_nil, Nat.mul_one, Nat.one_mul, List.cons_append, List.nil_append]
  refine AWc.family (O_1 s a d e g) (fun k => k ≤ s.segs.length) (fun k => s.segs.length - k) 0 (Nat.zero_le _) ?_ ?_
  · refine Weak.calc [(0, 0), (1, 1), (2, 2), (3, 3), (4, 4)] (by decide) ?_ ?_ <;> simp [tk_B, tk_Bools, tk_Blks, tk_Segs, AlL_append, renL_append, okL, okH, rowIs, okV, okHV, rowVt, vtL, okF, okHF, rowFz, fzL, fzV, fzOne, nilLike, oldLike, rn, s_envOf, s_envOf0, s_heapOf, s_heapOf0, s_put, s_put0, s_put1, s_app0, s_app1, Al, AlL, ren, renL, al_B, al_Bools, al_Blks, al_Segs, ren_B, ren_Bools, ren_Blks, ren_Segs, fB, fBools, fBlks, fSegs, wSegs, wBools, wBlks, al_weSegs, ren_weSegs, al_weBlks, ren_weBlks]
  · intro k hk
    by_cases hlt : k < s.segs.length
    · obtain ⟨q, hq, e1, e0⟩ := lt_at hlt
      obtain ⟨g0, g1⟩ := get_weSegs hq
      have hsl := hs.segs
      have hbl := hs.seg q (List.mem_of_getElem? hq)
      simp only [O_1, O_h, cSt, wSegs, wBools, wBlks, g0, g1, e1, e0, len_weSegs, SS, boxA, cellsOf, foffA, loadA, ldA, idxA, fldA, binA, binVal, isSh, intVal, lenA, slenA, pickA, storeA, setN, getN, fillA, extA, beqA, eqsA, eqL, isnilA, unA, unVal, convA, nilA, sconvA, b2sA, b2sOf, bytesOf, mmA, srcA, appA, sliceA, lohi, mkslA, envA, ↓reduceIte, Nat.reduceEqDiff, Nat.reduceAdd, Nat.reduceMul, reduceCtorEq, Nat.reduceLeDiff, fB, fBools, fBlks, fSegs, aBlk, aSg, aSt, stRow, List.drop_zero, List.take_succ_cons, List.take_zero, List.take_nil, Nat.mul_one, Nat.one_mul, List.cons_append, List.nil_append]
      refine AWc.family (O_2 s a d e g k) (fun j => j ≤ q.blocks.length) (fun j => q.blocks.length - j) 0 (Nat.zero_le _) ?_ ?_
      · refine Weak.calc [(0, 0), (1, 1), (2, 2), (3, 3), (4, 4)] (by decide) ?_ ?_ <;> simp [tk_B, tk_Bools, tk_Blks, tk_Segs, AlL_append, renL_append, okL, okH, rowIs, okV, okHV, rowVt, vtL, okF, okHF, rowFz, fzL, fzV, fzOne, nilLike, oldLike, rn, s_envOf, s_envOf0, s_heapOf, s_heapOf0, s_put, s_put0, s_put1, s_app0, s_app1, Al, AlL, ren, renL, al_B, al_Bools, al_Blks, al_Segs, ren_B, ren_Bools, ren_Blks, ren_Segs, fB, fBools, fBlks, fSegs, wSegs, wBools, wBlks, al_weSegs, ren_weSegs, al_weBlks, ren_weBlks]
      · intro j hj
        by_cases hjl : j < q.blocks.length
        · obtain ⟨x, hx, f1, f0⟩ := lt_at hjl
          obtain ⟨b0, b1, b2⟩ := get_weBlks hx
          have b2' : (weBlks q.blocks)[j * 3 + 1 + 1]? = some (.ws .u8 x.data.length) := b2
          simp only [O_2, O_h, cSt, wSegs, wBools, wBlks, g0, g1, e1, e0, b0, b1, b2, b2', f1, f0, len_weSegs, len_weBlks, SS, boxA, cellsOf, foffA, loadA, ldA, idxA, fldA, binA, binVal, isSh, intVal, lenA, slenA, pickA, storeA, setN, getN, fillA, extA, beqA, eqsA, eqL, isnilA, unA, unVal, convA, nilA, sconvA, b2sA, b2sOf, bytesOf, mmA, srcA, appA, sliceA, lohi, mkslA, envA, ↓reduceIte, Nat.reduceEqDiff, Nat.reduceAdd, Nat.reduceMul, reduceCtorEq, Nat.reduceLeDiff, fB, fBools, fBlks, fSegs, aBlk, aSg, aSt, stRow, List.drop_zero, List.take_succ_cons, List.take_zero, List.take_nil, Nat.mul_one, Nat.one_mul, List.cons_append, List.nil_append]
          refine ⟨_, spoil_spec x.data.length _ (by have := hs.segD q (List.mem_of_getElem? hq) x (List.mem_of_getElem? hx); omega), ?_⟩
          simp only [SS, boxA, cellsOf, foffA, loadA, ldA, idxA, fldA, binA, binVal, isSh, intVal, lenA, slenA, pickA, storeA, setN, getN, fillA, extA, beqA, eqsA, eqL, isnilA, unA, unVal, convA, nilA, sconvA, b2sA, b2sOf, bytesOf, mmA, srcA, appA, sliceA, lohi, mkslA, envA, ↓reduceIte, Nat.reduceEqDiff, Nat.reduceAdd, Nat.reduceMul, reduceCtorEq, Nat.reduceLeDiff, fB, fBools, fBlks, fSegs, aBlk, aSg, aSt, stRow, List.drop_zero, List.take_succ_cons, List.take_zero, List.take_nil, Nat.mul_one, Nat.one_mul, List.cons_append, List.nil_append]
          refine famC_next (j + 1) (by omega) (by omega) ?_
          refine Weak.calc [(0, 0), (1, 1), (2, 2), (3, 3), (4, 4)] (by decide) ?_ ?_ <;> simp [tk_B, tk_Bools, tk_Blks, tk_Segs, AlL_append, renL_append, okL, okH, rowIs, okV, okHV, rowVt, vtL, okF, okHF, rowFz, fzL, fzV, fzOne, nilLike, oldLike, rn, s_envOf, s_envOf0, s_heapOf, s_heapOf0, s_put, s_put0, s_put1, s_app0, s_app1, Al, AlL, ren, renL, al_B, al_Bools, al_Blks, al_Segs, ren_B, ren_Bools, ren_Blks, ren_Segs, fB, fBools, fBlks, fSegs, wSegs, wBools, wBlks, al_weSegs, ren_weSegs, al_weBlks, ren_weBlks, wrap64 (x := (j : Int) + 1) (by omega)]
        · have f1 : ¬ ((j : Int) < (q.blocks.length : Int)) := by omega
          simp only [O_2, O_h, cSt, wSegs, wBools, wBlks, g0, g1, e1, e0, f1, len_weSegs, SS, boxA, cellsOf, foffA, loadA, ldA, idxA, fldA, binA, binVal, isSh, intVal, lenA, slenA, pickA, storeA, setN, getN, fillA, extA, beqA, eqsA, eqL, isnilA, unA, unVal, convA, nilA, sconvA, b2sA, b2sOf, bytesOf, mmA, srcA, appA, sliceA, lohi, mkslA, envA, ↓reduceIte, Nat.reduceEqDiff, Nat.reduceAdd, Nat.reduceMul, reduceCtorEq, Nat.reduceLeDiff, fB, fBools, fBlks, fSegs, aBlk, aSg, aSt, stRow, List.drop_zero, List.take_succ_cons, List.take_zero, List.take_nil, Nat.mul_one, Nat.one_mul, List.cons_append, List.nil_append]
          refine famC_next (k + 1) (by omega) (by omega) ?_
          refine Weak.calc [(0, 0), (1, 1), (2, 2), (3, 3), (4, 4)] (by decide) ?_ ?_ <;> simp [tk_B, tk_Bools, tk_Blks, tk_Segs, AlL_append, renL_append, okL, okH, rowIs, okV, okHV, rowVt, vtL, okF, okHF, rowFz, fzL, fzV, fzOne, nilLike, oldLike, rn, s_envOf, s_envOf0, s_heapOf, s_heapOf0, s_put, s_put0, s_put1, s_app0, s_app1, Al, AlL, ren, renL, al_B, al_Bools, al_Blks, al_Segs, ren_B, ren_Bools, ren_Blks, ren_Segs, fB, fBools, fBlks, fSegs, wSegs, wBools, wBlks, al_weSegs, ren_weSegs, al_weBlks, ren_weBlks, wrap64 (x := (k : Int) + 1) (by omega)]
    · have e1 : ¬ ((k : Int) < (s.segs.length : Int)) := by omega
      simp only [O_1, O_h, cSt, wSegs, wBools, wBlks, e1, SS, boxA, cellsOf, foffA, loadA, ldA, idxA, fldA, binA, binVal, isSh, intVal, lenA, slenA, pickA, storeA, setN, getN, fillA, extA, beqA, eqsA, eqL, isnilA, unA, unVal, convA, nilA, sconvA, b2sA, b2sOf, bytesOf, mmA, srcA, appA, sliceA, lohi, mkslA, envA, ↓reduceIte, Nat.reduceEqDiff, Nat.reduceAdd, Nat.reduceMul, reduceCtorEq, Nat.reduceLeDiff, fB, fBools, fBlks, fSegs, aBlk, aSg, aSt, stRow, List.drop_zero, List.take_succ_cons, List.take_zero, List.take_nil, Nat.mul_one, Nat.one_mul, List.cons_append, List.nil_append]
      refine AWc.family (O_4 s a d e g) (fun k => k ≤ s.opn.length) (fun k => s.opn.length - k) 0 (Nat.zero_le _) ?_ ?_
      · refine Weak.calc [(0, 0), (1, 1), (2, 2), (3, 3), (4, 4)] (by decide) ?_ ?_ <;> simp [tk_B, tk_Bools, tk_Blks, tk_Segs, AlL_append, renL_append, okL, okH, rowIs, okV, okHV, rowVt, vtL, okF, okHF, rowFz, fzL, fzV, fzOne, nilLike, oldLike, rn, s_envOf, s_envOf0, s_heapOf, s_heapOf0, s_put, s_put0, s_put1, s_app0, s_app1, Al, AlL, ren, renL, al_B, al_Bools, al_Blks, al_Segs, ren_B, ren_Bools, ren_Blks, ren_Segs, fB, fBools, fBlks, fSegs, wSegs, wBools, wBlks, al_weSegs, ren_weSegs, al_weBlks, ren_weBlks]
      · intro j hj
        have hol := hs.opn
        by_cases hjl : j < s.opn.length
        · obtain ⟨x, hx, f1, f0⟩ := lt_at hjl
          obtain ⟨b0, b1, b2⟩ := get_weBlks hx
          have b2' : (weBlks s.opn)[j * 3 + 1 + 1]? = some (.ws .u8 x.data.length) := b2
          simp only [O_4, O_h, cSt, wSegs, wBools, wBlks, b0, b1, b2, b2', f1, f0, len_weBlks, SS, boxA, cellsOf, foffA, loadA, ldA, idxA, fldA, binA, binVal, isSh, intVal, lenA, slenA, pickA, storeA, setN, getN, fillA, extA, beqA, eqsA, eqL, isnilA, unA, unVal, convA, nilA, sconvA, b2sA, b2sOf, bytesOf, mmA, srcA, appA, sliceA, lohi, mkslA, envA, ↓reduceIte, Nat.reduceEqDiff, Nat.reduceAdd, Nat.reduceMul, reduceCtorEq, Nat.reduceLeDiff, fB, fBools, fBlks, fSegs, aBlk, aSg, aSt, stRow, List.drop_zero, List.take_succ_cons, List.take_zero, List.take_nil, Nat.mul_one, Nat.one_mul, List.cons_append, List.nil_append]
          refine ⟨_, spoil_spec x.data.length _ (by have := hs.opnD x (List.mem_of_getElem? hx); omega), ?_⟩
          simp only [SS, boxA, cellsOf, foffA, loadA, ldA, idxA, fldA, binA, binVal, isSh, intVal, lenA, slenA, pickA, storeA, setN, getN, fillA, extA, beqA, eqsA, eqL, isnilA, unA, unVal, convA, nilA, sconvA, b2sA, b2sOf, bytesOf, mmA, srcA, appA, sliceA, lohi, mkslA, envA, ↓reduceIte, Nat.reduceEqDiff, Nat.reduceAdd, Nat.reduceMul, reduceCtorEq, Nat.reduceLeDiff, fB, fBools, fBlks, fSegs, aBlk, aSg, aSt, stRow, List.drop_zero, List.take_succ_cons, List.take_zero, List.take_nil, Nat.mul_one, Nat.one_mul, List.cons_append, List.nil_append]
          refine famC_next (j + 1) (by omega) (by omega) ?_
          refine Weak.calc [(0, 0), (1, 1), (2, 2), (3, 3), (4, 4)] (by decide) ?_ ?_ <;> simp [tk_B, tk_Bools, tk_Blks, tk_Segs, AlL_append, renL_append, okL, okH, rowIs, okV, okHV, rowVt, vtL, okF, okHF, rowFz, fzL, fzV, fzOne, nilLike, oldLike, rn, s_envOf, s_envOf0, s_heapOf, s_heapOf0, s_put, s_put0, s_put1, s_app0, s_app1, Al, AlL, ren, renL, al_B, al_Bools, al_Blks, al_Segs, ren_B, ren_Bools, ren_Blks, ren_Segs, fB, fBools, fBlks, fSegs, wSegs, wBools, wBlks, al_weSegs, ren_weSegs, al_weBlks, ren_weBlks, wrap64 (x := (j : Int) + 1) (by omega)]
        · have f1 : ¬ ((j : Int) < (s.opn.length : Int)) := by omega
          simp only [O_4, O_h, cSt, wSegs, wBools, wBlks, f1, SS, boxA, cellsOf, foffA, loadA, ldA, idxA, fldA, binA, binVal, isSh, intVal, lenA, slenA, pickA, storeA, setN, getN, fillA, extA, beqA, eqsA, eqL, isnilA, unA, unVal, convA, nilA, sconvA, b2sA, b2sOf, bytesOf, mmA, srcA, appA, sliceA, lohi, mkslA, envA, ↓reduceIte, Nat.reduceEqDiff, Nat.reduceAdd, Nat.reduceMul, reduceCtorEq, Nat.reduceLeDiff, fB, fBools, fBlks, fSegs, aBlk, aSg, aSt, stRow, List.drop_zero, List.take_succ_cons, List.take_zero, List.take_nil, Nat.mul_one, Nat.one_mul, List.cons_append, List.nil_append]
          refine AWc.family (O_6 s a d e g) (fun k => k ≤ s.held.length) (fun k => s.held.length - k) 0 (Nat.zero_le _) ?_ ?_
          · refine Weak.calc [(0, 0), (1, 1), (2, 2), (3, 3), (4, 4)] (by decide) ?_ ?_ <;> simp [tk_B, tk_Bools, tk_Blks, tk_Segs, AlL_append, renL_append, okL, okH, rowIs, okV, okHV, rowVt, vtL, okF, okHF, rowFz, fzL, fzV, fzOne, nilLike, oldLike, rn, s_envOf, s_envOf0, s_heapOf, s_heapOf0, s_put, s_put0, s_put1, s_app0, s_app1, Al, AlL, ren, renL, al_B, al_Bools, al_Blks, al_Segs, ren_B, ren_Bools, ren_Blks, ren_Segs, fB, fBools, fBlks, fSegs, wSegs, wBools, wBlks, al_weSegs, ren_weSegs, al_weBlks, ren_weBlks]
          · intro j hj
            have hhl := hs.held
            by_cases hjl : j < s.held.length
            · have f1 : ((j : Int) < (s.held.length : Int)) := by omega
              have f0 : (0 : Int) ≤ (j : Int) := by omega
              simp only [O_6, O_h, cSt, wSegs, wBools, wBlks, f1, f0, SS, boxA, cellsOf, foffA, loadA, ldA, idxA, fldA, binA, binVal, isSh, intVal, lenA, slenA, pickA, storeA, setN, getN, fillA, extA, beqA, eqsA, eqL, isnilA, unA, unVal, convA, nilA, sconvA, b2sA, b2sOf, bytesOf, mmA, srcA, appA, sliceA, lohi, mkslA, envA, ↓reduceIte, Nat.reduceEqDiff, Nat.reduceAdd, Nat.reduceMul, reduceCtorEq, Nat.reduceLeDiff, fB, fBools, fBlks, fSegs, aBlk, aSg, aSt, stRow, List.drop_zero, List.take_succ_cons, List.take_zero, List.take_nil, Nat.mul_one, Nat.one_mul, List.cons_append, List.nil_append]
              rw [if_pos (show isNot .not = true from rfl)]
              refine ⟨by rfl, ?_⟩
              refine famC_next (j + 1) (by omega) (by omega) ?_
              refine Weak.calc [(0, 0), (1, 1), (2, 2), (3, 3), (4, 4)] (by decide) ?_ ?_ <;> simp [tk_B, tk_Bools, tk_Blks, tk_Segs, AlL_append, renL_append, okL, okH, rowIs, okV, okHV, rowVt, vtL, okF, okHF, rowFz, fzL, fzV, fzOne, nilLike, oldLike, rn, s_envOf, s_envOf0, s_heapOf, s_heapOf0, s_put, s_put0, s_put1, s_app0, s_app1, Al, AlL, ren, renL, al_B, al_Bools, al_Blks, al_Segs, ren_B, ren_Bools, ren_Blks, ren_Segs, fB, fBools, fBlks, fSegs, wSegs, wBools, wBlks, al_weSegs, ren_weSegs, al_weBlks, ren_weBlks, wrap64 (x := (j : Int) + 1) (by omega)]
            · have f1 : ¬ ((j : Int) < (s.held.length : Int)) := by omega
              simp only [O_6, O_h, cSt, wSegs, wBools, wBlks, f1, SS, boxA, cellsOf, foffA, loadA, ldA, idxA, fldA, binA, binVal, isSh, intVal, lenA, slenA, pickA, storeA, setN, getN, fillA, extA, beqA, eqsA, eqL, isnilA, unA, unVal, convA, nilA, sconvA, b2sA, b2sOf, bytesOf, mmA, srcA, appA, sliceA, lohi, mkslA, envA, ↓reduceIte, Nat.reduceEqDiff, Nat.reduceAdd, Nat.reduceMul, reduceCtorEq, Nat.reduceLeDiff, fB, fBools, fBlks, fSegs, aBlk, aSg, aSt, stRow, List.drop_zero, List.take_succ_cons, List.take_zero, List.take_nil, Nat.mul_one, Nat.one_mul, List.cons_append, List.nil_append]
              refine ⟨_, num15_spec e _, ?_⟩
              simp only [SS, boxA, cellsOf, foffA, loadA, ldA, idxA, fldA, binA, binVal, isSh, intVal, lenA, slenA, pickA, storeA, setN, getN, fillA, extA, beqA, eqsA, eqL, isnilA, unA, unVal, convA, nilA, sconvA, b2sA, b2sOf, bytesOf, mmA, srcA, appA, sliceA, lohi, mkslA, envA, ↓reduceIte, Nat.reduceEqDiff, Nat.reduceAdd, Nat.reduceMul, reduceCtorEq, Nat.reduceLeDiff, fB, fBools, fBlks, fSegs, aBlk, aSg, aSt, stRow, List.drop_zero, List.take_succ_cons, List.take_zero, List.take_nil, Nat.mul_one, Nat.one_mul, List.cons_append, List.nil_append]
              refine ⟨_, num15_spec g _, ?_⟩
              simp only [SS, boxA, cellsOf, foffA, loadA, ldA, idxA, fldA, binA, binVal, isSh, intVal, lenA, slenA, pickA, storeA, setN, getN, fillA, extA, beqA, eqsA, eqL, isnilA, unA, unVal, convA, nilA, sconvA, b2sA, b2sOf, bytesOf, mmA, srcA, appA, sliceA, lohi, mkslA, envA, ↓reduceIte, Nat.reduceEqDiff, Nat.reduceAdd, Nat.reduceMul, reduceCtorEq, Nat.reduceLeDiff, fB, fBools, fBlks, fSegs, aBlk, aSg, aSt, stRow, List.drop_zero, List.take_succ_cons, List.take_zero, List.take_nil, Nat.mul_one, Nat.one_mul, List.cons_append, List.nil_append]
              refine ⟨_, alikeSt_spec true true a a _ ha, ?_⟩
              simp only [no01, SS, boxA, cellsOf, foffA, loadA, ldA, idxA, fldA, binA, binVal, isSh, intVal, lenA, slenA, pickA, storeA, setN, getN, fillA, extA, beqA, eqsA, eqL, isnilA, unA, unVal, convA, nilA, sconvA, b2sA, b2sOf, bytesOf, mmA, srcA, appA, sliceA, lohi, mkslA, envA, ↓reduceIte, Nat.reduceEqDiff, Nat.reduceAdd, Nat.reduceMul, reduceCtorEq, Nat.reduceLeDiff, fB, fBools, fBlks, fSegs, aBlk, aSg, aSt, stRow, List.drop_zero, List.take_succ_cons, List.take_zero, List.take_nil, Nat.mul_one, Nat.one_mul, List.cons_append, List.nil_append]
              refine ⟨_, alikeSt_spec true true d d _ hd, ?_⟩
              simp only [no01, SS, boxA, cellsOf, foffA, loadA, ldA, idxA, fldA, binA, binVal, isSh, intVal, lenA, slenA, pickA, storeA, setN, getN, fillA, extA, beqA, eqsA, eqL, isnilA, unA, unVal, convA, nilA, sconvA, b2sA, b2sOf, bytesOf, mmA, srcA, appA, sliceA, lohi, mkslA, envA, ↓reduceIte, Nat.reduceEqDiff, Nat.reduceAdd, Nat.reduceMul, reduceCtorEq, Nat.reduceLeDiff, fB, fBools, fBlks, fSegs, aBlk, aSg, aSt, stRow, List.drop_zero, List.take_succ_cons, List.take_zero, List.take_nil, Nat.mul_one, Nat.one_mul, List.cons_append, List.nil_append]
              refine .inr ?_
              refine Weak.calc [] (by decide) ?_ ?_ <;> simp [tk_B, tk_Bools, tk_Blks, tk_Segs, AlL_append, renL_append, okL, okH, rowIs, okV, okHV, rowVt, vtL, okF, okHF, rowFz, fzL, fzV, fzOne, nilLike, oldLike, rn, s_envOf, s_envOf0, s_heapOf, s_heapOf0, s_put, s_put0, s_put1, s_app0, s_app1, Al, AlL, ren, renL, al_B, al_Bools, al_Blks, al_Segs, ren_B, ren_Bools, ren_Blks, ren_Segs, fB, fBools, fBlks, fSegs]
end Go.Proofs.Ytfoeddmbhmfjcaa
/- LogOwn: its moments, and labels of values. -/
namespace Go.Proofs.Ytfoeddmbhmfjcaa
open Go.RowKit
set_option maxRecDepth 100000
section
variable {p : Bool → Prop} {fr : Bool}
theorem lb_eB (l : List Int) : LbL p (eB l) := by
  rw [LbL_iff]; intro a ha
  unfold eB at ha
  obtain ⟨_, _, rfl⟩ := List.mem_map.1 ha
  trivial
theorem lb_eBools (l : List Bool) : LbL p (eBools l) := by
  rw [LbL_iff]; intro a ha
  unfold eBools at ha
  obtain ⟨_, _, rfl⟩ := List.mem_map.1 ha
  trivial
theorem lb_B (h : p fr) (l : List Int) : Lb p (fB fr l) := ⟨h, lb_eB l⟩
theorem lb_Bools (h : p fr) (l : List Bool) : Lb p (fBools fr l) := ⟨h, lb_eBools l⟩
theorem lb_eBlks (h : p fr) (l : List Blk) : LbL p (eBlks fr l) := by
  rw [LbL_iff]; intro a ha
  unfold eBlks at ha
  obtain ⟨x, _, hx⟩ := List.mem_flatMap.1 ha
  simp only [eBlk, List.mem_cons, List.not_mem_nil, or_false] at hx
  rcases hx with rfl | rfl | rfl
  · trivial
  · trivial
  · exact lb_B h x.data
theorem lb_Blks (h : p fr) (l : List Blk) : Lb p (fBlks fr l) := ⟨h, lb_eBlks h l⟩
theorem lb_eSegs (h : p fr) (l : List Sg) : LbL p (eSegs fr l) := by
  rw [LbL_iff]; intro a ha
  unfold eSegs at ha
  obtain ⟨x, _, hx⟩ := List.mem_flatMap.1 ha
  simp only [eSg, List.mem_cons, List.not_mem_nil, or_false] at hx
  rcases hx with rfl | rfl
  · trivial
  · exact lb_Blks h x.blocks
theorem lb_Segs (h : p fr) (l : List Sg) : Lb p (fSegs fr l) := ⟨h, lb_eSegs h l⟩
theorem lb_cSt (h : p fr) (s : St) : LbL p (cSt fr s) := ⟨lb_Segs h _, lb_Bools h _, lb_Blks h _, trivial, trivial⟩
theorem lb_St (h : p fr) (s : St) : Lb p (aSt fr s) := lb_cSt h s
theorem lb_Blk (h : p fr) (b : Blk) : Lb p (aBlk fr b) := ⟨trivial, trivial, lb_B h _, trivial⟩
end
abbrev B_1 (s : St) (b : Blk) : ASt := ⟨envOf [(2, .op 0 0), (3, .op 1 0)], heapOf [(0, stRow 32 false s), (1, .row true 55 [.v (.int .i64 b.own), .v (.int .i64 b.idx), fB false b.data])], 2⟩
abbrev B_2 (s : St) (b : Blk) : ASt := ⟨envOf [(2, .op 0 0), (3, .op 1 0), (5, .op 2 0)], heapOf [(0, stRow 32 false s), (1, .row true 55 [.v (.int .i64 b.own), .v (.int .i64 b.idx), fB false b.data]),
  (2, .row true 36 [uSegs true s.segs, uBools true s.held, uBlks true s.opn, .v (.int .i64 s.next)])], 3⟩
abbrev B_3 (s : St) (b : Blk) : ASt := ⟨envOf [(2, .op 0 0), (3, .op 1 0), (5, .op 2 0), (6, .op 3 0)], heapOf [(0, stRow 32 false s), (1, .row true 55 [.v (.int .i64 b.own), .v (.int .i64 b.idx), fB false b.data]),
  (2, .row true 36 [uSegs true s.segs, uBools true s.held, uBlks true s.opn, .v (.int .i64 s.next)]), (3, .row true 57 [.v (.int .i64 b.own), .v (.int .i64 b.idx), uB true b.data])], 4⟩
theorem lb_uBlks (l : List Blk) : Lb (fun fr => fr = true) (uBlks true l) := by
  refine ⟨rfl, ?_⟩
  rw [LbL_iff]; intro a ha
  unfold ueBlks at ha
  obtain ⟨x, _, hx⟩ := List.mem_flatMap.1 ha
  simp only [ueBlk, List.mem_cons, List.not_mem_nil, or_false] at hx
  rcases hx with rfl | rfl | rfl
  · trivial
  · trivial
  · exact ⟨rfl, lb_eB _⟩
theorem lb_uSegs (l : List Sg) : Lb (fun fr => fr = true) (uSegs true l) := by
  refine ⟨rfl, ?_⟩
  rw [LbL_iff]; intro a ha
  unfold ueSegs at ha
  obtain ⟨x, _, hx⟩ := List.mem_flatMap.1 ha
  simp only [ueSg, List.mem_cons, List.not_mem_nil, or_false] at hx
  rcases hx with rfl | rfl
  · trivial
  · exact lb_uBlks x.blocks
abbrev B_4 (s : St) (b : Blk) (u0 u1 u2 ud : Value) : ASt := ⟨envOf [(2, .op 0 0), (3, .op 1 0), (5, .op 2 0), (6, .op 3 0)], heapOf [(0, .row false 32 (cSt false s)), (1, .row false 55 [.v (.int .i64 b.own), .v (.int .i64 b.idx), fB false b.data]),
  (2, .row false 36 [.v u0, .v u1, .v u2, .v (.int .i64 s.next)]), (3, .row false 57 [.v (.int .i64 b.own), .v (.int .i64 b.idx), .v ud])], 4⟩
abbrev B_5 (s : St) (b : Blk) (u0 u1 u2 ud : Value) (t : St) (e : Int) : ASt := ⟨envOf [(2, .op 0 0), (3, .op 1 0), (5, .op 2 0), (6, .op 3 0), (7, .op 4 0), (8, .v (.int .i64 e))], heapOf [(0, .row false 32 (cSt false s)), (1, .row false 55 [.v (.int .i64 b.own), .v (.int .i64 b.idx), fB false b.data]),
  (2, .row false 36 [.v u0, .v u1, .v u2, .v (.int .i64 s.next)]), (3, .row false 57 [.v (.int .i64 b.own), .v (.int .i64 b.idx), .v ud]), (4, .row true 36 (cSt true t))], 5⟩
abbrev B_6 (s : St) (u0 u1 u2 ud : Value) (b : Blk) (t : St) (e : Int) : ASt := ⟨envOf [(2, .op 0 0), (5, .op 2 0), (6, .op 3 0), (7, .op 4 0), (8, .v (.int .i64 e)), (9, .op 5 0), (10, .v (.int .i64 e))], heapOf [(0, .row false 32 (cSt false s)),
  (2, .row false 36 [.v u0, .v u1, .v u2, .v (.int .i64 s.next)]), (3, .row false 57 [.v (.int .i64 b.own), .v (.int .i64 b.idx), .v ud]), (4, .row true 36 (cSt true t)), (5, .row true 32 (cSt true t))], 6⟩
abbrev B_7 (s : St) (u0 u1 u2 ud : Value) (b : Blk) (t d : St) (e g : Int) : ASt := ⟨envOf [(2, .op 0 0), (5, .op 2 0), (6, .op 3 0), (7, .op 4 0), (8, .v (.int .i64 e)), (9, .op 5 0), (10, .v (.int .i64 e)), (11, .op 6 0), (13, .v (.int .i64 g))], heapOf [(0, .row false 32 (cSt false s)),
  (2, .row false 36 [.v u0, .v u1, .v u2, .v (.int .i64 s.next)]), (3, .row false 57 [.v (.int .i64 b.own), .v (.int .i64 b.idx), .v ud]), (4, .row true 36 (cSt true t)), (5, .row true 32 (cSt true t)), (6, .row true 36 (cSt true d))], 7⟩
abbrev B_8 (s : St) (u0 u1 u2 ud : Value) (b : Blk) (t d : St) (e g : Int) : ASt := ⟨envOf [(5, .op 2 0), (6, .op 3 0), (7, .op 4 0), (8, .v (.int .i64 e)), (9, .op 5 0), (10, .v (.int .i64 e)), (11, .op 6 0), (13, .v (.int .i64 g)), (14, .op 7 0), (16, .v (.int .i64 g))], heapOf [
  (2, .row false 36 [.v u0, .v u1, .v u2, .v (.int .i64 s.next)]), (3, .row false 57 [.v (.int .i64 b.own), .v (.int .i64 b.idx), .v ud]), (4, .row true 36 (cSt true t)), (5, .row true 32 (cSt true t)), (6, .row true 36 (cSt true d)), (7, .row true 32 (cSt true d))], 8⟩
theorem row_of {c : Cx} {id : Nat} {y : Bool} {e : Nat} {x : AV} {cells : List AV} (h : HR c) (hs : c.σ id = some (.row y e (x :: cells))) : ∃ b cs, c.φ id = some (some b) ∧ c.w.heap[b]? = some (.cells cs e (0, 0)) ∧ (y = true → c.B ≤ b) ∧ ¬ c.X b ∧
    ∀ (j : Nat) a, (x :: cells)[j]? = some a → ∃ u, cs[j]? = some u ∧ u.oneCell' = true ∧ VR c a u := by
  rcases h.row id y e _ hs with ⟨_, h2⟩ | ⟨b, cs, h1, h2, h3, _, h5⟩
  · cases h2
  · exact ⟨b, cs, h1, h2, h3.1, h3.2, h5⟩
end Go.Proofs.Ytfoeddmbhmfjcaa
/- LogOwn: what stands behind the calls of Put and Seal in their regions. -/
namespace Go.Proofs.Ytfoeddmbhmfjcaa
open Go.RowKit
set_option maxRecDepth 100000
theorem own_put_run (s : St) (b : Blk) (u0 u1 u2 ud : Value) (t : St) (e : Int) : runL Try.prog 4 [⟨some 33, .mv (.tmp 36), none, [36], []⟩, ⟨some 37, .ext 0 (.tmp 33), none, [33], []⟩, ⟨some 38, .ext 1 (.tmp 33), none, [33], []⟩, ⟨some 7, .new 36 [(.slice none 0 0), (.slice none 0 0), (.slice none 0 0), (.int .i64 (0))], none, [], []⟩, ⟨none, .store 4 (.tmp 7) (.tmp 37), none, [7, 37], []⟩, ⟨some 8, .mv (.tmp 38), none, [38], []⟩] 3
    ⟨putE (putE (putE (B_4 s b u0 u1 u2 ud).env (some 34) (.agg [.v u0, .v u1, .v u2, .v (.int .i64 s.next)])) (some 35) (.agg [.v (.int .i64 b.own), .v (.int .i64 b.idx), .v ud])) (some 36) (.tup [aSt true t, .v (.int .i64 e)]), (B_4 s b u0 u1 u2 ud).σ, 4⟩ []
    fun s' _ => Weak 142 0 ⟨envOf ([2, 3, 5, 6, 7, 8].map fun k => (k, s'.env k)), s'.σ, 4 + 64 * 9⟩ (B_5 s b u0 u1 u2 ud t e) := by
  simp only [B_4, aSt, SS, boxA, cellsOf, foffA, loadA, ldA, idxA, fldA, binA, binVal, isSh, intVal, lenA, slenA, pickA, storeA, setN, getN, fillA, extA, beqA, eqsA, eqL, isnilA, unA, unVal, convA, nilA, sconvA, b2sA, b2sOf, bytesOf, mmA, srcA, appA, sliceA, lohi, mkslA, envA, ↓reduceIte, Nat.reduceEqDiff, Nat.reduceAdd, Nat.reduceMul, reduceCtorEq, Nat.reduceLeDiff, fB, fBools, fBlks, fSegs, aBlk, aSg, aSt, stRow, List.drop_zero, List.take_succ_cons, List.take_zero, List.take_nil, Nat.mul_one, Nat.one_mul, List.cons_append, List.nil_append]
  refine Weak.calc [(0, 0), (1, 1), (2, 2), (3, 3), (388, 4)] (by decide) ?_ ?_ <;> simp [tk_B, tk_Bools, tk_Blks, tk_Segs, AlL_append, renL_append, okL, okH, rowIs, okV, okHV, rowVt, vtL, okF, okHF, rowFz, fzL, fzV, fzOne, nilLike, oldLike, rn, s_envOf, s_envOf0, s_heapOf, s_heapOf0, s_put, s_put0, s_put1, s_app0, s_app1, Al, AlL, ren, renL, al_B, al_Bools, al_Blks, al_Segs, ren_B, ren_Bools, ren_Blks, ren_Segs, fB, fBools, fBlks, fSegs, s_tmp, s_const, setN]
set_option maxHeartbeats 1000000 in
theorem own_seal_run (s : St) (b : Blk) (u0 u1 u2 ud : Value) (t d : St) (e g p : Int) : runL Try.prog 6 [⟨some 45, .mv (.tmp 47), none, [47], []⟩, ⟨some 48, .ext 0 (.tmp 45), none, [45], []⟩, ⟨some 49, .ext 1 (.tmp 45), none, [45], []⟩, ⟨some 50, .ext 2 (.tmp 45), none, [45], []⟩, ⟨some 11, .new 36 [(.slice none 0 0), (.slice none 0 0), (.slice none 0 0), (.int .i64 (0))], none, [], []⟩, ⟨none, .store 4 (.tmp 11) (.tmp 48), none, [11, 48], []⟩, ⟨some 12, .mv (.tmp 49), none, [49], []⟩, ⟨some 13, .mv (.tmp 50), none, [50], []⟩] 2
    ⟨putE (putE (B_6 s u0 u1 u2 ud b t e).env (some 46) (.agg [.v u0, .v u1, .v u2, .v (.int .i64 s.next)])) (some 47) (.tup [aSt true d, .v (.int .i64 p), .v (.int .i64 g)]), (B_6 s u0 u1 u2 ud b t e).σ, 6⟩ []
    fun s' _ => Weak 142 0 ⟨envOf ([2, 5, 6, 7, 8, 9, 10, 11, 13].map fun k => (k, s'.env k)), s'.σ, 6 + 64 * 10⟩ (B_7 s u0 u1 u2 ud b t d e g) := by
  simp only [B_6, aSt, SS, boxA, cellsOf, foffA, loadA, ldA, idxA, fldA, binA, binVal, isSh, intVal, lenA, slenA, pickA, storeA, setN, getN, fillA, extA, beqA, eqsA, eqL, isnilA, unA, unVal, convA, nilA, sconvA, b2sA, b2sOf, bytesOf, mmA, srcA, appA, sliceA, lohi, mkslA, envA, ↓reduceIte, Nat.reduceEqDiff, Nat.reduceAdd, Nat.reduceMul, reduceCtorEq, Nat.reduceLeDiff, fB, fBools, fBlks, fSegs, aBlk, aSg, aSt, stRow, List.drop_zero, List.take_succ_cons, List.take_zero, List.take_nil, Nat.mul_one, Nat.one_mul, List.cons_append, List.nil_append]
  refine Weak.calc [(0, 0), (2, 2), (3, 3), (4, 4), (5, 5), (390, 6)] (by decide) ?_ ?_ <;> simp [tk_B, tk_Bools, tk_Blks, tk_Segs, AlL_append, renL_append, okL, okH, rowIs, okV, okHV, rowVt, vtL, okF, okHF, rowFz, fzL, fzV, fzOne, nilLike, oldLike, rn, s_envOf, s_envOf0, s_heapOf, s_heapOf0, s_put, s_put0, s_put1, s_app0, s_app1, Al, AlL, ren, renL, al_B, al_Bools, al_Blks, al_Segs, ren_B, ren_Bools, ren_Blks, ren_Segs, fB, fBools, fBlks, fSegs, s_tmp, s_const, setN]
theorem own_rput_run (s : St) (b : Blk) (u0 u1 u2 ud : Value) : wpC Try.prog 142 0 r5_5 (B_5 s b u0 u1 u2 ud (putSt s b) (putErr s b)) fun e s' => e = .normal ∧ Weak 142 0 s' (B_6 s u0 u1 u2 ud b (putSt s b) (putErr s b)) := by
  simp only [r5_5, B_5, SS, boxA, cellsOf, foffA, loadA, ldA, idxA, fldA, binA, binVal, isSh, intVal, lenA, slenA, pickA, storeA, setN, getN, fillA, extA, beqA, eqsA, eqL, isnilA, unA, unVal, convA, nilA, sconvA, b2sA, b2sOf, bytesOf, mmA, srcA, appA, sliceA, lohi, mkslA, envA, ↓reduceIte, Nat.reduceEqDiff, Nat.reduceAdd, Nat.reduceMul, reduceCtorEq, Nat.reduceLeDiff, fB, fBools, fBlks, fSegs, aBlk, aSg, aSt, stRow, List.drop_zero, List.take_succ_cons, List.take_zero, List.take_nil, Nat.mul_one, Nat.one_mul, List.cons_append, List.nil_append]
  refine ⟨_, rPut_spec false false s b _, ?_⟩
  rw [(put_eq s b).1, (put_eq s b).2]
  generalize putSt s b = t
  generalize putErr s b = e
  simp only [aSt, SS, boxA, cellsOf, foffA, loadA, ldA, idxA, fldA, binA, binVal, isSh, intVal, lenA, slenA, pickA, storeA, setN, getN, fillA, extA, beqA, eqsA, eqL, isnilA, unA, unVal, convA, nilA, sconvA, b2sA, b2sOf, bytesOf, mmA, srcA, appA, sliceA, lohi, mkslA, envA, ↓reduceIte, Nat.reduceEqDiff, Nat.reduceAdd, Nat.reduceMul, reduceCtorEq, Nat.reduceLeDiff, fB, fBools, fBlks, fSegs, aBlk, aSg, aSt, stRow, List.drop_zero, List.take_succ_cons, List.take_zero, List.take_nil, Nat.mul_one, Nat.one_mul, List.cons_append, List.nil_append]
  refine Weak.calc [(0, 0), (2, 2), (3, 3), (4, 4), (389, 5)] (by decide) ?_ ?_ <;> simp [tk_B, tk_Bools, tk_Blks, tk_Segs, AlL_append, renL_append, okL, okH, rowIs, okV, okHV, rowVt, vtL, okF, okHF, rowFz, fzL, fzV, fzOne, nilLike, oldLike, rn, s_envOf, s_envOf0, s_heapOf, s_heapOf0, s_put, s_put0, s_put1, s_app0, s_app1, Al, AlL, ren, renL, al_B, al_Bools, al_Blks, al_Segs, ren_B, ren_Bools, ren_Blks, ren_Segs, fB, fBools, fBlks, fSegs, s_tmp, s_const, setN]
theorem own_rseal_run (s : St) (b : Blk) (u0 u1 u2 ud : Value) (t : St) (e : Int) : wpC Try.prog 142 0 r7_5 (B_7 s u0 u1 u2 ud b t (slSt s) e (slErr s)) fun x s' => x = .normal ∧ Weak 142 0 s' (B_8 s u0 u1 u2 ud b t (slSt s) e (slErr s)) := by
  simp only [r7_5, B_7, SS, boxA, cellsOf, foffA, loadA, ldA, idxA, fldA, binA, binVal, isSh, intVal, lenA, slenA, pickA, storeA, setN, getN, fillA, extA, beqA, eqsA, eqL, isnilA, unA, unVal, convA, nilA, sconvA, b2sA, b2sOf, bytesOf, mmA, srcA, appA, sliceA, lohi, mkslA, envA, ↓reduceIte, Nat.reduceEqDiff, Nat.reduceAdd, Nat.reduceMul, reduceCtorEq, Nat.reduceLeDiff, fB, fBools, fBlks, fSegs, aBlk, aSg, aSt, stRow, List.drop_zero, List.take_succ_cons, List.take_zero, List.take_nil, Nat.mul_one, Nat.one_mul, List.cons_append, List.nil_append]
  refine ⟨_, rSeal_spec false s _, ?_⟩
  rw [(sl_eq s).1, (sl_eq s).2.1, (sl_eq s).2.2]
  generalize slSt s = d
  generalize slErr s = g
  generalize slAt s = p
  simp only [aSt, SS, boxA, cellsOf, foffA, loadA, ldA, idxA, fldA, binA, binVal, isSh, intVal, lenA, slenA, pickA, storeA, setN, getN, fillA, extA, beqA, eqsA, eqL, isnilA, unA, unVal, convA, nilA, sconvA, b2sA, b2sOf, bytesOf, mmA, srcA, appA, sliceA, lohi, mkslA, envA, ↓reduceIte, Nat.reduceEqDiff, Nat.reduceAdd, Nat.reduceMul, reduceCtorEq, Nat.reduceLeDiff, fB, fBools, fBlks, fSegs, aBlk, aSg, aSt, stRow, List.drop_zero, List.take_succ_cons, List.take_zero, List.take_nil, Nat.mul_one, Nat.one_mul, List.cons_append, List.nil_append]
  refine Weak.calc [(2, 2), (3, 3), (4, 4), (5, 5), (6, 6), (391, 7)] (by decide) ?_ ?_ <;> simp [tk_B, tk_Bools, tk_Blks, tk_Segs, AlL_append, renL_append, okL, okH, rowIs, okV, okHV, rowVt, vtL, okF, okHF, rowFz, fzL, fzV, fzOne, nilLike, oldLike, rn, s_envOf, s_envOf0, s_heapOf, s_heapOf0, s_put, s_put0, s_put1, s_app0, s_app1, Al, AlL, ren, renL, al_B, al_Bools, al_Blks, al_Segs, ren_B, ren_Bools, ren_Blks, ren_Segs, fB, fBools, fBlks, fSegs, s_tmp, s_const, setN]
end Go.Proofs.Ytfoeddmbhmfjcaa
/- LogOwn: from the first spoiling to the end. -/
namespace Go.Proofs.Ytfoeddmbhmfjcaa
open Go.RowKit
set_option maxRecDepth 100000
mutual
theorem Lb.nw {p : Bool → Prop} : ∀ {a : AV}, Lb p a → Nw a
  | .any, _ => trivial
  | .v _, _ => trivial
  | .wv _, _ => trivial
  | .fs _ _ _, h => LbL.nw h.2
  | .fp _ _ _, h => LbL.nw h.2
  | .us _ _ _ _, h => LbL.nw h.2
  | .agg _, h => LbL.nw h
  | .tup _, h => LbL.nw h
  | .fn _ _, h => LbL.nw h
  | .os _ _ _ _, h => h.elim
  | .op _ _, h => h.elim
  | .ws _ _, h => h.elim
  | .wp _, h => h.elim
theorem LbL.nw {p : Bool → Prop} : ∀ {l : List AV}, LbL p l → NwL l
  | [], _ => trivial
  | _ :: _, h => ⟨Lb.nw h.1, LbL.nw h.2⟩
end
theorem VR.ops2 {c d : Cx} (hφ : d.φ = c.φ) {l : List (Nat × AV)} (hl : ∀ p ∈ l, (∃ id, p.2 = .op id 0) ∨ ∃ x, p.2 = .v x) {t : Nat} {u : Value} (h : VR c (envOf l t) u) : VR d (envOf l t) u := by
  induction l with
  | nil => trivial
  | cons p l ih =>
    obtain ⟨k, v⟩ := p
    simp only [envOf] at h ⊢
    split
    · rename_i e
      rw [if_pos e] at h
      rcases hl (k, v) (by simp) with ⟨id, hv⟩ | ⟨x, hv⟩
      · simp only at hv
        subst hv
        obtain ⟨b, h1, h2⟩ := h
        exact ⟨b, by rw [hφ]; exact h1, h2⟩
      · simp only at hv
        subst hv
        exact h
    · rename_i e
      rw [if_neg e] at h
      exact ih (fun p hp => hl p (by simp [hp])) h
theorem cells_flat {α : Type} {e e' : α → List AV} {k : Nat} (hk : ∀ x, (e x).length = k) (hk' : ∀ x, (e' x).length = k) {R : AV → AV → Prop} (h : ∀ x (j : Nat) a', (e' x)[j]? = some a' → ∃ a, (e x)[j]? = some a ∧ R a a') :
    ∀ (l : List α) (j : Nat) a', (l.flatMap e')[j]? = some a' → ∃ a, (l.flatMap e)[j]? = some a ∧ R a a'
  | [], j, a', hj => by simp at hj
  | x :: l, j, a', hj => by
    rw [List.flatMap_cons] at hj ⊢
    by_cases hlt : j < k
    · rw [List.getElem?_append_left (by rw [hk']; exact hlt)] at hj
      rw [List.getElem?_append_left (by rw [hk]; exact hlt)]
      exact h x j a' hj
    · rw [List.getElem?_append_right (by rw [hk']; omega), hk'] at hj
      rw [List.getElem?_append_right (by rw [hk]; omega), hk]
      exact cells_flat hk hk' h l _ a' hj
section
variable {c : Cx} {L M : Nat} {σ : Heap}
theorem give_blks (hσ : ∀ id, σ id ≠ none → c.σ id ≠ none) {l : List Blk} {u : Value} (h : VR (c.seen L M) (uBlks true l) u) : VR (c.give L M σ) (wBlks l) u := by
  refine give_us hσ (by decide) (by decide) ((len_weBlks l).trans (len_ueBlks (fr := true) l).symm) (cells_flat (e := ueBlk true) (e' := weBlk) (k := 3) (R := fun a a' => ∀ u, VR (c.seen L M) a u → VR (c.give L M σ) a' u) (fun _ => rfl) (fun _ => rfl) ?_ l) h
  intro x j a' hj
  match j, hj with
  | 0, hj => cases hj; exact ⟨_, rfl, fun u hu => hu⟩
  | 1, hj => cases hj; exact ⟨_, rfl, fun u hu => hu⟩
  | 2, hj => cases hj; exact ⟨_, rfl, fun u hu => give_u8 hσ hu⟩
  | j + 3, hj => simp [weBlk] at hj
theorem give_segs (hσ : ∀ id, σ id ≠ none → c.σ id ≠ none) {l : List Sg} {u : Value} (h : VR (c.seen L M) (uSegs true l) u) : VR (c.give L M σ) (wSegs l) u := by
  refine give_us hσ (by decide) (by decide) ((len_weSegs l).trans (len_ueSegs (fr := true) l).symm) (cells_flat (e := ueSg true) (e' := weSg) (k := 2) (R := fun a a' => ∀ u, VR (c.seen L M) a u → VR (c.give L M σ) a' u) (fun _ => rfl) (fun _ => rfl) ?_ l) h
  intro x j a' hj
  match j, hj with
  | 0, hj => cases hj; exact ⟨_, rfl, fun u hu => hu⟩
  | 1, hj => cases hj; exact ⟨_, rfl, fun u hu => give_blks hσ hu⟩
  | j + 2, hj => simp [weSg] at hj
end
theorem lb_cTrue (s : St) (j : Nat) (x : AV) (h : (cSt true s)[j]? = some x) : Lb (fun fr => fr = true) x := LbL_iff.1 (lb_cSt (p := fun fr => fr = true) (fr := true) rfl s) x (List.mem_of_getElem? h)
abbrev B_9 (s : St) (b : Blk) (t d : St) (e g : Int) : ASt := ⟨envOf [(5, .op 2 0), (6, .op 3 0), (7, .op 4 0), (8, .v (.int .i64 e)), (9, .op 5 0), (10, .v (.int .i64 e)), (11, .op 6 0), (13, .v (.int .i64 g)), (14, .op 7 0), (16, .v (.int .i64 g))], heapOf [
  (2, .row false 36 [wSegs s.segs, wBools s.held, wBlks s.opn, .v (.int .i64 s.next)]), (3, .row false 57 [.v (.int .i64 b.own), .v (.int .i64 b.idx), wB b.data]), (4, .row false 36 (cSt true t)), (5, .row false 32 (cSt true t)), (6, .row false 36 (cSt true d)), (7, .row false 32 (cSt true d))], 8⟩
theorem own_weak (s : St) (b : Blk) (t d : St) (e g : Int) : Weak 142 0 (B_9 s b t d e g) (O_0 s t d b e g) := by
  refine Weak.calc [(2, 0), (4, 1), (5, 2), (6, 3), (7, 4), (3, 5)] (by decide) ?_ ?_ <;> simp [tk_B, tk_Bools, tk_Blks, tk_Segs, AlL_append, renL_append, okL, okH, rowIs, okV, okHV, rowVt, vtL, okF, okHF, rowFz, fzL, fzV, fzOne, nilLike, oldLike, rn, s_envOf, s_envOf0, s_heapOf, s_heapOf0, s_put, s_put0, s_put1, s_app0, s_app1, Al, AlL, ren, renL, al_B, al_Bools, al_Blks, al_Segs, ren_B, ren_Bools, ren_Blks, ren_Segs, fB, fBools, fBlks, fSegs, wSegs, wBools, wBlks, wB, al_weSegs, ren_weSegs, al_weBlks, ren_weBlks]
theorem own_end {c : Cx} {a : Act} {code : Code} {Q' : Exit → Act → World → Prop} (s : St) (b : Blk) (t d : St) (e g : Int) (u0 u1 u2 ud : Value) (L M : Nat) (hLM : L ≤ M)
    (hc : compCode Try.prog 142 code = some rest_5.forget) (hs : SZ s) (hb : b.data.length ≤ 140737488355328) (ht : SZ t) (hd : SZ d)
    (h : RelR 142 8 No c (B_8 s u0 u1 u2 ud b t d e g) a) (hM : M ≤ c.B) (hT : ∀ b, b < L → ¬ c.T b)
    (v0 : VR (c.seen L M) (uSegs true s.segs) u0) (v1 : VR (c.seen L M) (uBools true s.held) u1) (v2 : VR (c.seen L M) (uBlks true s.opn) u2) (vd : VR (c.seen L M) (uB true b.data) ud)
    (hQ : ∀ c' a', RelR 142 1 No c' ⟨envOf [(4, .v (.bool true))], heapOf [], 1⟩ a' → Below L c.w c'.w → Q' .ret a' c'.w) : code.wp Try.prog Q' a c.w := by
  have hσ : ∀ id, (B_9 s b t d e g).σ id ≠ none → c.σ id ≠ none := by
    intro id hid
    obtain ⟨o, ho⟩ := Option.ne_none_iff_exists'.1 hid
    have hm := heapOf_mem ho
    simp only [List.mem_cons, List.not_mem_nil, or_false, Prod.mk.injEq] at hm
    rw [h.σ]
    rcases hm with ⟨rfl, _⟩ | ⟨rfl, _⟩ | ⟨rfl, _⟩ | ⟨rfl, _⟩ | ⟨rfl, _⟩ | ⟨rfl, _⟩ <;> exact fun h => by cases h
  generalize hd' : c.give L M (B_9 s b t d e g).σ = c' at *
  have w' : c'.w = c.w := by rw [← hd']; rfl
  have B' : c'.B = c.B := by rw [← hd']; rfl
  have X' : ∀ b, c'.X b ↔ (c.X b ∨ LeafT c L M 5 b ∨ LeafT c L M 4 b) := by rw [← hd']; intro b; rfl
  have ntX : ∀ (id b' : Nat) (o : AObj), c.σ id = some o → c.φ id = some (some b') → ¬ c.X b' → ¬ c'.X b' := by
    intro id b' o e1 e2 e3
    rw [X']
    rintro (h9 | h9 | h9)
    · exact e3 h9
    · exact h9.2.1 ⟨id, o, e1, e2⟩
    · exact h9.2.1 ⟨id, o, e1, e2⟩
  have res : ∀ (st0 : St) (j : Nat) (x : AV) (u : Value), (cSt true st0)[j]? = some x → VR c x u → VR c' x u := by
    intro st0 j x u h1 h2
    rw [← hd']
    exact give_true hσ hM (lb_cTrue st0 j x h1) h2
  have h' : RelR 142 8 No c' (B_9 s b t d e g) a := by
    refine RelR.rebase h w' (by rw [← hd']; rfl) (by rw [← hd']; rfl) (by rw [B', w']; exact h.hr.base) (fun b hb => ?_) (fun t => .inr fun u hu => VR.ops2 (c := c) (by rw [← hd']; rfl) (by simp) hu) (fun id y e cells hs => ?_)
    · rw [w']
      rcases (X' b).1 hb with h9 | ⟨_, _, vs, h9⟩ | ⟨_, _, vs, h9⟩
      · exact h.hr.xlt b h9
      · exact lt_of_heap h9
      · exact lt_of_heap h9
    · have hm := heapOf_mem hs
      simp only [List.mem_cons, List.not_mem_nil, or_false, Prod.mk.injEq, AObj.row.injEq] at hm
      rcases hm with ⟨rfl, rfl, rfl, rfl⟩ | ⟨rfl, rfl, rfl, rfl⟩ | ⟨rfl, rfl, rfl, rfl⟩ | ⟨rfl, rfl, rfl, rfl⟩ | ⟨rfl, rfl, rfl, rfl⟩ | ⟨rfl, rfl, rfl, rfl⟩
      · refine ⟨rfl, false, _, rfl, rfl, fun b' vs e1 e2 e3 => ⟨ntX 2 b' _ (by rw [h.σ]; rfl) e1 e3, fun j x y0 u f1 f2 f3 f4 => ?_⟩⟩
        match j, f1, f2 with
        | 0, f1, f2 => cases f1; cases f2; cases f4; rw [← hd']; exact give_segs hσ v0
        | 1, f1, f2 => cases f1; cases f2; cases f4; rw [← hd']; exact give_bool hσ v1
        | 2, f1, f2 => cases f1; cases f2; cases f4; rw [← hd']; exact give_blks hσ v2
        | 3, f1, f2 => cases f1; cases f2; exact f4
        | j + 4, f1, f2 => simp at f1
      · refine ⟨rfl, false, _, rfl, rfl, fun b' vs e1 e2 e3 => ⟨ntX 3 b' _ (by rw [h.σ]; rfl) e1 e3, fun j x y0 u f1 f2 f3 f4 => ?_⟩⟩
        match j, f1, f2 with
        | 0, f1, f2 => cases f1; cases f2; exact f4
        | 1, f1, f2 => cases f1; cases f2; exact f4
        | 2, f1, f2 => cases f1; cases f2; cases f4; rw [← hd']; exact give_u8 hσ vd
        | j + 3, f1, f2 => simp at f1
      · exact ⟨rfl, true, cSt true t, rfl, rfl, fun b' vs e1 e2 e3 => ⟨ntX 4 b' _ (by rw [h.σ]; rfl) e1 e3, fun j x y0 u f1 f2 f3 f4 => by rw [f1] at f2; cases f2; exact res t j x u f1 f4⟩⟩
      · exact ⟨rfl, true, cSt true t, rfl, rfl, fun b' vs e1 e2 e3 => ⟨ntX 5 b' _ (by rw [h.σ]; rfl) e1 e3, fun j x y0 u f1 f2 f3 f4 => by rw [f1] at f2; cases f2; exact res t j x u f1 f4⟩⟩
      · exact ⟨rfl, true, cSt true d, rfl, rfl, fun b' vs e1 e2 e3 => ⟨ntX 6 b' _ (by rw [h.σ]; rfl) e1 e3, fun j x y0 u f1 f2 f3 f4 => by rw [f1] at f2; cases f2; exact res d j x u f1 f4⟩⟩
      · exact ⟨rfl, true, cSt true d, rfl, rfl, fun b' vs e1 e2 e3 => ⟨ntX 7 b' _ (by rw [h.σ]; rfl) e1 e3, fun j x y0 u f1 f2 f3 f4 => by rw [f1] at f2; cases f2; exact res d j x u f1 f4⟩⟩
  obtain ⟨c2, e2, g2, _, h2, _⟩ := own_weak s b t d e g c' a h' (Nat.zero_le _)
  rw [← w', ← e2]
  refine aw_run2 h2 hc (rest_own s t d b e g hs hb ht hd) (fun _ _ h _ _ => h.elim) (fun c3 a3 _ g3 h3 => hQ c3 a3 h3 ?_)
  have g := g2.trans g3
  rw [← w']
  have hLs : L ≤ c'.w.heap.size := by
    have := h.hr.base
    rw [w']; omega
  refine ⟨g.osE, g.tape, g.out, g.size, fun b' hb' => g.stay b' (by omega) (fun hT' => ?_) (fun _ => ?_)⟩
  · rw [← hd'] at hT'
    exact hT b' hb' (give_T hσ hT')
  · rw [← hd']
    exact (if_neg (fun h9 : LeafT c L M 5 b' => by have := h9.1.1; omega)).trans (if_neg (fun h9 : LeafT c L M 4 b' => by have := h9.1.1; omega))
end Go.Proofs.Ytfoeddmbhmfjcaa
/- LogOwn, put together. -/
namespace Go.Proofs.Ytfoeddmbhmfjcaa
open Go.RowKit
set_option maxRecDepth 100000
set_option maxHeartbeats 4000000 in
theorem logOwn_spec (s : St) (b : Blk) (nb : Nat) (hok : okSt s) (hb : okBlk b) : ASound Try.prog 5 [aSt false s, aBlk false b] nb (.ret (.v (.bool true)) []) := by
  refine hand_sound Try.func5 rfl (by rfl) (by simp [Try.ntmps5]) ⟨Lb.nw (lb_St (p := fun _ => True) (fr := false) trivial s), Lb.nw (lb_Blk (p := fun _ => True) (fr := false) trivial b), trivial⟩ trivial ?_
  rw [Try.ntmps5]
  intro c a hY hrel
  have h0 : RelR 142 0 No (c.gh c.w.heap.size c.X) ⟨envA [aSt false s, aBlk false b], fun _ => none, 0⟩ a := by
    refine RelR.rebase hrel rfl rfl hrel.σ (Nat.le_refl _) hrel.hr.xlt (fun t => .inr fun u hu => ?_) (fun id y e cells h => by cases h)
    refine VR.lb (c := c) (d := c.gh c.w.heap.size c.X) (p := fun fr => fr = false) rfl (fun fr b h1 h2 h3 => ⟨fun h => (by rw [h1] at h; cases h), h3.2.1, h3.2.2⟩) ?_ hu
    match t with
    | 0 => exact lb_St (p := fun fr => fr = false) (fr := false) rfl s
    | 1 => exact lb_Blk (p := fun fr => fr = false) (fr := false) rfl b
    | n + 2 => trivial
  show Code.wp _ _ _ a (c.gh c.w.heap.size c.X).w
  generalize hc0 : c.gh c.w.heap.size c.X = c0 at h0 ⊢
  refine wp_seq (aw_run (st := ⟨envA [aSt false s, aBlk false b], fun _ => none, 0⟩) (ac := r0_5) (st' := B_1 s b) h0 (by kernel_rfl) ?_ ?_)
  · simp only [r0_5, aSt, aBlk, envA, SS, boxA, cellsOf, foffA, loadA, ldA, idxA, fldA, binA, binVal, isSh, intVal, lenA, slenA, pickA, storeA, setN, getN, fillA, extA, beqA, eqsA, eqL, isnilA, unA, unVal, convA, nilA, sconvA, b2sA, b2sOf, bytesOf, mmA, srcA, appA, sliceA, lohi, mkslA, envA, ↓reduceIte, Nat.reduceEqDiff, Nat.reduceAdd, Nat.reduceMul, reduceCtorEq, Nat.reduceLeDiff, fB, fBools, fBlks, fSegs, aBlk, aSg, aSt, stRow, List.drop_zero, List.take_succ_cons, List.take_zero, List.take_nil, Nat.mul_one, Nat.one_mul, List.cons_append, List.nil_append]
    refine Weak.calc [(0, 0), (64, 1)] (by decide) ?_ ?_ <;> simp [tk_B, tk_Bools, tk_Blks, tk_Segs, AlL_append, renL_append, okL, okH, rowIs, okV, okHV, rowVt, vtL, okF, okHF, rowFz, fzL, fzV, fzOne, nilLike, oldLike, rn, s_envOf, s_envOf0, s_heapOf, s_heapOf0, s_put, s_put0, s_put1, s_app0, s_app1, Al, AlL, ren, renL, al_B, al_Bools, al_Blks, al_Segs, ren_B, ren_Bools, ren_Blks, ren_Segs, fB, fBools, fBlks, fSegs]
  intro c1 a1 g1 h1
  simp only [Exit.then]
  refine wp_seq (aw_run (st := B_1 s b) (ac := r1_5) (st' := B_1 s b) h1 (by kernel_rfl) ?_ ?_)
  · simp only [r1_5, SS, boxA, cellsOf, foffA, loadA, ldA, idxA, fldA, binA, binVal, isSh, intVal, lenA, slenA, pickA, storeA, setN, getN, fillA, extA, beqA, eqsA, eqL, isnilA, unA, unVal, convA, nilA, sconvA, b2sA, b2sOf, bytesOf, mmA, srcA, appA, sliceA, lohi, mkslA, envA, ↓reduceIte, Nat.reduceEqDiff, Nat.reduceAdd, Nat.reduceMul, reduceCtorEq, Nat.reduceLeDiff, fB, fBools, fBlks, fSegs, aBlk, aSg, aSt, stRow, List.drop_zero, List.take_succ_cons, List.take_zero, List.take_nil, Nat.mul_one, Nat.one_mul, List.cons_append, List.nil_append]
    refine ⟨_, alive_spec _, ?_⟩
    simp only [SS, boxA, cellsOf, foffA, loadA, ldA, idxA, fldA, binA, binVal, isSh, intVal, lenA, slenA, pickA, storeA, setN, getN, fillA, extA, beqA, eqsA, eqL, isnilA, unA, unVal, convA, nilA, sconvA, b2sA, b2sOf, bytesOf, mmA, srcA, appA, sliceA, lohi, mkslA, envA, ↓reduceIte, Nat.reduceEqDiff, Nat.reduceAdd, Nat.reduceMul, reduceCtorEq, Nat.reduceLeDiff, fB, fBools, fBlks, fSegs, aBlk, aSg, aSt, stRow, List.drop_zero, List.take_succ_cons, List.take_zero, List.take_nil, Nat.mul_one, Nat.one_mul, List.cons_append, List.nil_append]
    refine Weak.calc [(0, 0), (1, 1)] (by decide) ?_ ?_ <;> simp [tk_B, tk_Bools, tk_Blks, tk_Segs, AlL_append, renL_append, okL, okH, rowIs, okV, okHV, rowVt, vtL, okF, okHF, rowFz, fzL, fzV, fzOne, nilLike, oldLike, rn, s_envOf, s_envOf0, s_heapOf, s_heapOf0, s_put, s_put0, s_put1, s_app0, s_app1, Al, AlL, ren, renL, al_B, al_Bools, al_Blks, al_Segs, ren_B, ren_Bools, ren_Blks, ren_Segs, fB, fBools, fBlks, fSegs]
  intro c2 a2 g2 h2
  simp only [Exit.then]
  refine wp_seq (aw_run (st := B_1 s b) (ac := r2_5) (st' := B_2 s b) h2 (by kernel_rfl) ?_ ?_)
  · simp only [r2_5, SS, boxA, cellsOf, foffA, loadA, ldA, idxA, fldA, binA, binVal, isSh, intVal, lenA, slenA, pickA, storeA, setN, getN, fillA, extA, beqA, eqsA, eqL, isnilA, unA, unVal, convA, nilA, sconvA, b2sA, b2sOf, bytesOf, mmA, srcA, appA, sliceA, lohi, mkslA, envA, ↓reduceIte, Nat.reduceEqDiff, Nat.reduceAdd, Nat.reduceMul, reduceCtorEq, Nat.reduceLeDiff, fB, fBools, fBlks, fSegs, aBlk, aSg, aSt, stRow, List.drop_zero, List.take_succ_cons, List.take_zero, List.take_nil, Nat.mul_one, Nat.one_mul, List.cons_append, List.nil_append]
    refine ⟨_, ofSt_U false s _ (ok_sz hok), ?_⟩
    simp only [uSt, uSegs, uBools, uBlks, SS, boxA, cellsOf, foffA, loadA, ldA, idxA, fldA, binA, binVal, isSh, intVal, lenA, slenA, pickA, storeA, setN, getN, fillA, extA, beqA, eqsA, eqL, isnilA, unA, unVal, convA, nilA, sconvA, b2sA, b2sOf, bytesOf, mmA, srcA, appA, sliceA, lohi, mkslA, envA, ↓reduceIte, Nat.reduceEqDiff, Nat.reduceAdd, Nat.reduceMul, reduceCtorEq, Nat.reduceLeDiff, fB, fBools, fBlks, fSegs, aBlk, aSg, aSt, stRow, List.drop_zero, List.take_succ_cons, List.take_zero, List.take_nil, Nat.mul_one, Nat.one_mul, List.cons_append, List.nil_append]
    refine Weak.calc [(0, 0), (1, 1), (130, 2)] (by decide) ?_ ?_ <;> simp [tk_B, tk_Bools, tk_Blks, tk_Segs, AlL_append, renL_append, okL, okH, rowIs, okV, okHV, rowVt, vtL, okF, okHF, rowFz, fzL, fzV, fzOne, nilLike, oldLike, rn, s_envOf, s_envOf0, s_heapOf, s_heapOf0, s_put, s_put0, s_put1, s_app0, s_app1, Al, AlL, ren, renL, al_B, al_Bools, al_Blks, al_Segs, ren_B, ren_Bools, ren_Blks, ren_Segs, fB, fBools, fBlks, fSegs, uSegs, uBools, uBlks, al_ueSegs, al_ueBlks, ren_ueSegs, ren_ueBlks]
  intro c3 a3 g3 h3
  simp only [Exit.then]
  refine wp_seq (aw_run (st := B_2 s b) (ac := r3_5) (st' := B_3 s b) h3 (by kernel_rfl) ?_ ?_)
  · simp only [r3_5, SS, boxA, cellsOf, foffA, loadA, ldA, idxA, fldA, binA, binVal, isSh, intVal, lenA, slenA, pickA, storeA, setN, getN, fillA, extA, beqA, eqsA, eqL, isnilA, unA, unVal, convA, nilA, sconvA, b2sA, b2sOf, bytesOf, mmA, srcA, appA, sliceA, lohi, mkslA, envA, ↓reduceIte, Nat.reduceEqDiff, Nat.reduceAdd, Nat.reduceMul, reduceCtorEq, Nat.reduceLeDiff, fB, fBools, fBlks, fSegs, aBlk, aSg, aSt, stRow, List.drop_zero, List.take_succ_cons, List.take_zero, List.take_nil, Nat.mul_one, Nat.one_mul, List.cons_append, List.nil_append]
    refine ⟨_, copyBytes_U false b.data _ (by have := hb.2.2.1; unfold reachB at this; omega), ?_⟩
    simp only [uB, SS, boxA, cellsOf, foffA, loadA, ldA, idxA, fldA, binA, binVal, isSh, intVal, lenA, slenA, pickA, storeA, setN, getN, fillA, extA, beqA, eqsA, eqL, isnilA, unA, unVal, convA, nilA, sconvA, b2sA, b2sOf, bytesOf, mmA, srcA, appA, sliceA, lohi, mkslA, envA, ↓reduceIte, Nat.reduceEqDiff, Nat.reduceAdd, Nat.reduceMul, reduceCtorEq, Nat.reduceLeDiff, fB, fBools, fBlks, fSegs, aBlk, aSg, aSt, stRow, List.drop_zero, List.take_succ_cons, List.take_zero, List.take_nil, Nat.mul_one, Nat.one_mul, List.cons_append, List.nil_append]
    refine ⟨by rfl, ?_⟩
    refine Weak.calc [(0, 0), (1, 1), (2, 2), (515, 3)] (by decide) ?_ ?_ <;> simp [tk_B, tk_Bools, tk_Blks, tk_Segs, AlL_append, renL_append, okL, okH, rowIs, okV, okHV, rowVt, vtL, okF, okHF, rowFz, fzL, fzV, fzOne, nilLike, oldLike, rn, s_envOf, s_envOf0, s_heapOf, s_heapOf0, s_put, s_put0, s_put1, s_app0, s_app1, Al, AlL, ren, renL, al_B, al_Bools, al_Blks, al_Segs, ren_B, ren_Bools, ren_Blks, ren_Segs, fB, fBools, fBlks, fSegs, uB, uSegs, uBools, uBlks, al_ueSegs, al_ueBlks, ren_ueSegs, ren_ueBlks]
  intro c4 a4 g4 h4
  simp only [Exit.then]
  -- the copies' values
  obtain ⟨bx, cx, px, qx, yx, nx_, vx⟩ := row_of (id := 2) h4.hr (by rw [h4.σ]; rfl)
  obtain ⟨bi, ci, pi_, qi, yi, ni, vi⟩ := row_of (id := 3) h4.hr (by rw [h4.σ]; rfl)
  obtain ⟨u0, x0, _, w0⟩ := vx 0 _ rfl
  obtain ⟨u1, x1, _, w1⟩ := vx 1 _ rfl
  obtain ⟨u2, x2, _, w2⟩ := vx 2 _ rfl
  obtain ⟨ud, xd, _, wd⟩ := vi 2 _ rfl
  generalize hc5 : (⟨c4.w, c4.w.heap.size, c4.φ, (B_4 s b u0 u1 u2 ud).σ, c4.X, c4.Y⟩ : Cx) = c5
  have w5 : c5.w = c4.w := by rw [← hc5]
  have φ5 : c5.φ = c4.φ := by rw [← hc5]
  have σ5 : c5.σ = (B_4 s b u0 u1 u2 ud).σ := by rw [← hc5]
  have X5 : c5.X = c4.X := by rw [← hc5]
  have T5 : ∀ b', c5.T b' → c4.T b' := by
    rintro b' ⟨id, o, e1, e2⟩
    rw [σ5] at e1
    rw [φ5] at e2
    have hm := heapOf_mem e1
    simp only [List.mem_cons, List.not_mem_nil, or_false, Prod.mk.injEq] at hm
    rcases hm with ⟨rfl, _⟩ | ⟨rfl, _⟩ | ⟨rfl, _⟩ | ⟨rfl, _⟩ <;> exact ⟨_, _, by rw [h4.σ]; rfl, e2⟩
  have k5 : ∀ fr b', fr = false → b' < c4.w.heap.size → c4.ok fr b' → c5.ok fr b' := fun fr b' e1 _ e2 => ⟨fun e3 => (by rw [e1] at e3; cases e3), fun e3 => e2.2.1 (T5 b' e3), by rw [X5]; exact e2.2.2⟩
  have h5 : RelR 142 4 No c5 (B_4 s b u0 u1 u2 ud) a4 := by
    refine RelR.rebase h4 w5 φ5 σ5 (by rw [← hc5]; exact Nat.le_refl _) (by rw [X5, w5]; exact h4.hr.xlt) (fun t => .inr fun u hu => VR.ops (c := c4) φ5 (by simp) hu) (fun id y e cells hs => ?_)
    have hm := heapOf_mem hs
    simp only [List.mem_cons, List.not_mem_nil, or_false, Prod.mk.injEq, AObj.row.injEq] at hm
    rcases hm with ⟨rfl, rfl, rfl, rfl⟩ | ⟨rfl, rfl, rfl, rfl⟩ | ⟨rfl, rfl, rfl, rfl⟩ | ⟨rfl, rfl, rfl, rfl⟩
    · refine ⟨rfl, true, cSt false s, rfl, rfl, fun b' vs e1 e2 e3 => ⟨by rw [X5]; exact e3, fun j x y0 u f1 f2 f3 f4 => ?_⟩⟩
      rw [f1] at f2; cases f2
      exact VR.lb (p := fun fr => fr = false) w5 k5 (LbL_iff.1 (lb_cSt (p := fun fr => fr = false) (fr := false) rfl s) x (List.mem_of_getElem? f1)) f4
    · refine ⟨rfl, true, _, rfl, rfl, fun b' vs e1 e2 e3 => ⟨by rw [X5]; exact e3, fun j x y0 u f1 f2 f3 f4 => ?_⟩⟩
      rw [f1] at f2; cases f2
      exact VR.lb (p := fun fr => fr = false) w5 k5 (LbL_iff.1 (show LbL (fun fr => fr = false) [.v (.int .i64 b.own), .v (.int .i64 b.idx), fB false b.data] from ⟨trivial, trivial, lb_B (p := fun fr => fr = false) (fr := false) rfl _, trivial⟩) x (List.mem_of_getElem? f1)) f4
    · refine ⟨rfl, true, _, rfl, rfl, fun b' vs e1 e2 e3 => ⟨by rw [X5]; exact e3, fun j x y0 u f1 f2 f3 f4 => ?_⟩⟩
      rw [px] at e1; cases e1
      rw [qx] at e2; cases e2
      rcases j with _ | _ | _ | _ | j
      · cases f1; rw [x0] at f3; cases f3; rfl
      · cases f1; rw [x1] at f3; cases f3; rfl
      · cases f1; rw [x2] at f3; cases f3; rfl
      · cases f1; cases f2; exact f4
      · simp at f1
    · refine ⟨rfl, true, _, rfl, rfl, fun b' vs e1 e2 e3 => ⟨by rw [X5]; exact e3, fun j x y0 u f1 f2 f3 f4 => ?_⟩⟩
      rw [pi_] at e1; cases e1
      rw [qi] at e2; cases e2
      rcases j with _ | _ | _ | j
      · cases f1; cases f2; exact f4
      · cases f1; cases f2; exact f4
      · cases f1; rw [xd] at f3; cases f3; rfl
      · simp at f1
  have B4 : c4.B = c.w.heap.size := by rw [((g1.trans g2).trans (g3.trans g4)).B, ← hc0]
  -- ghosts: what the copies are, between L and M
  have ks : ∀ fr b', fr = true → b' < c4.w.heap.size → c4.ok fr b' → (c5.seen c.w.heap.size c4.w.heap.size).ok fr b' := fun fr b' e1 e2 e3 =>
    ⟨fun _ => by have := e3.1 e1; rw [B4] at this; exact this, fun e4 => e3.2.1 (T5 b' e4), by
      show ¬ (c5.X b' ∨ c4.w.heap.size ≤ b')
      rw [X5]
      rintro (e4 | e4)
      · exact e3.2.2 e4
      · omega⟩
  have lbB : ∀ l, Lb (fun fr => fr = true) (uB true l) := fun l => ⟨rfl, lb_eB l⟩
  have v0 : VR (c5.seen c.w.heap.size c4.w.heap.size) (uSegs true s.segs) u0 := VR.lb (c := c4) (d := c5.seen c.w.heap.size c4.w.heap.size) w5 ks (lb_uSegs s.segs) w0
  have v1 : VR (c5.seen c.w.heap.size c4.w.heap.size) (uBools true s.held) u1 := VR.lb (c := c4) (d := c5.seen c.w.heap.size c4.w.heap.size) w5 ks ⟨rfl, lb_eBools _⟩ w1
  have v2 : VR (c5.seen c.w.heap.size c4.w.heap.size) (uBlks true s.opn) u2 := VR.lb (c := c4) (d := c5.seen c.w.heap.size c4.w.heap.size) w5 ks (lb_uBlks s.opn) w2
  have vd : VR (c5.seen c.w.heap.size c4.w.heap.size) (uB true b.data) ud := VR.lb (c := c4) (d := c5.seen c.w.heap.size c4.w.heap.size) w5 ks (lbB _) wd
  have Y5 : ∀ b', c5.Y b' = .no := by rw [← hc5]; intro b'; show c4.Y b' = _; rw [((g1.trans g2).trans (g3.trans g4)).Y, ← hc0]; exact hY b'
  have gA := (g1.trans g2).trans (g3.trans g4)
  rw [← w5]
  -- Put and Seal on the copies, by hand
  have back : ∀ cc, Grow c5 cc → VR cc (aSt false s) (.agg #[u0, u1, u2, .int .i64 s.next]) ∧ VR cc (aBlk false b) (.agg #[.int .i64 b.own, .int .i64 b.idx, ud]) := by
    intro cc gg
    have gh := gg.gh Y5 c.w.heap.size (fun b' => c5.X b' ∨ c4.w.heap.size ≤ b')
    have kk : ∀ fr b', fr = false → b' < cc.w.heap.size → (cc.gh c.w.heap.size (fun b' => c5.X b' ∨ c4.w.heap.size ≤ b')).ok fr b' → cc.ok fr b' := fun fr b' e1 _ e2 => ⟨fun e3 => (by rw [e1] at e3; cases e3), e2.2.1, fun e3 => e2.2.2 (.inl (by rw [← gg.X]; exact e3))⟩
    have t0 := VR.lb (c := cc.gh c.w.heap.size (fun b' => c5.X b' ∨ c4.w.heap.size ≤ b')) (p := fun fr => fr = false) (d := cc) rfl kk (lb_Segs (p := fun fr => fr = false) (fr := false) rfl _) (imp_uSegs s.segs _ _ (VR.lbm gh (lb_uSegs _) v0))
    have t1 := VR.lb (c := cc.gh c.w.heap.size (fun b' => c5.X b' ∨ c4.w.heap.size ≤ b')) (p := fun fr => fr = false) (d := cc) rfl kk (lb_Bools (p := fun fr => fr = false) (fr := false) rfl _) (imp_uBools s.held _ _ (VR.lbm (p := fun fr => fr = true) gh ⟨rfl, lb_eBools _⟩ v1))
    have t2 := VR.lb (c := cc.gh c.w.heap.size (fun b' => c5.X b' ∨ c4.w.heap.size ≤ b')) (p := fun fr => fr = false) (d := cc) rfl kk (lb_Blks (p := fun fr => fr = false) (fr := false) rfl _) (imp_uBlks s.opn _ _ (VR.lbm gh (lb_uBlks _) v2))
    have t3 := VR.lb (c := cc.gh c.w.heap.size (fun b' => c5.X b' ∨ c4.w.heap.size ≤ b')) (p := fun fr => fr = false) (d := cc) rfl kk (lb_B (p := fun fr => fr = false) (fr := false) rfl _) (imp_uB b.data _ _ (VR.lbm gh (lbB _) vd))
    have one : ∀ {fr : Bool} {cs : List AV} {n : Nat} {u : Value}, VR cc (.fs fr cs n) u → u.oneCell' = true := by
      intro fr cs n u h
      obtain ⟨A, k, rfl, _⟩ := h
      rfl
    refine ⟨⟨[u0, u1, u2, .int .i64 s.next], rfl, _, _, rfl, one t0, t0, _, _, rfl, one t1, t1, _, _, rfl, one t2, t2, _, _, rfl, rfl, rfl, rfl⟩, ⟨[.int .i64 b.own, .int .i64 b.idx, ud], rfl, _, _, rfl, rfl, rfl, _, _, rfl, rfl, rfl, _, _, rfl, one t3, t3, rfl⟩⟩
  refine wp_seq (wp_region ?_)
  show wpOps _ _ _ [0, 1, 2, 3, 4, 5, 6, 7, 8] _ _
  rw [wpOps_cons]
  refine hand_eff (N := 142) (nx := 4) (st := B_4 s b u0 u1 u2 ud) (ao := .load true 4 (.tmp 5)) (r := .agg [.v u0, .v u1, .v u2, .v (.int .i64 s.next)]) (R := [2]) (W := []) (done' := fun j => j < 1) (RelR.start (st := B_4 s b u0 u1 u2 ud) h5) rfl rfl rfl (by kernel_rfl) rfl rfl (by omega) (fun j hj => by omega) ?_
  intro c6 a6 l6 h6
  rw [wpOps_cons]
  refine hand_eff (N := 142) (nx := 4) (ao := .load true 3 (.tmp 6)) (r := .agg [.v (.int .i64 b.own), .v (.int .i64 b.idx), .v ud]) (R := [3]) (W := []) (done' := fun j => j < 2) h6 rfl rfl rfl (by kernel_rfl) rfl rfl (by omega) (fun j hj => by omega) ?_
  intro c7 a7 l7 h7
  rw [wpOps_cons]
  have q34 : a7.eval (.tmp 34) = .agg #[u0, u1, u2, .int .i64 s.next] := by
    obtain ⟨us, e1, _, _, rfl, _, rfl, _, _, rfl, _, rfl, _, _, rfl, _, rfl, _, _, rfl, _, rfl, rfl⟩ := h7.env 34
    exact e1
  have q35 : a7.eval (.tmp 35) = .agg #[.int .i64 b.own, .int .i64 b.idx, ud] := by
    obtain ⟨us, e1, _, _, rfl, _, rfl, _, _, rfl, _, rfl, _, _, rfl, _, rfl, rfl⟩ := h7.env 35
    exact e1
  obtain ⟨bk1, bk2⟩ := back c7 (l6.grow.trans l7.grow)
  refine hand_call (N := 142) (nx := 4) (done' := fun j => j < 3) h7 rfl rfl rfl (exec_call (f := 30) (args := [.tmp 34, .tmp 35]) (by kernel_rfl) (by rfl) a7 _) ?_ (fun j hj => by omega)
  show Calls _ _ #[a7.eval (.tmp 34), a7.eval (.tmp 35)] _ _
  rw [q34, q35]
  refine ((logPut_A false false s b (4 + 64 * 2) hok hb).2 c7 [_, _] _ _ [] rfl h7.hr (fun id hid => ?_) ⟨_, _, rfl, bk1, _, _, rfl, bk2, rfl⟩).mono ?_
  · by_cases hn : c7.φ id = none
    · exact .inl hn
    · obtain ⟨j, q1, q2, q3⟩ := h7.fresh id (by show 4 ≤ id; omega) hn
      exact .inr (by omega)
  rintro e w' ⟨v, d8, rfl, rfl, hv8, T8⟩
  refine ⟨v, d8, _, rfl, rfl, hv8, T8, fun h8 => ?_⟩
  refine text_shut (k := 3) (rs := [⟨some 33, .mv (.tmp 36), none, [36], []⟩, ⟨some 37, .ext 0 (.tmp 33), none, [33], []⟩, ⟨some 38, .ext 1 (.tmp 33), none, [33], []⟩, ⟨some 7, .new 36 [(.slice none 0 0), (.slice none 0 0), (.slice none 0 0), (.int .i64 (0))], none, [], []⟩, ⟨none, .store 4 (.tmp 7) (.tmp 37), none, [7, 37], []⟩, ⟨some 8, .mv (.tmp 38), none, [38], []⟩])
    (by decide) (by kernel_rfl) h8 rfl (st' := B_5 s b u0 u1 u2 ud (putSt s b) (putErr s b)) (keep := [2, 3, 5, 6, 7, 8]) ?_ ?_
  · exact own_put_run s b u0 u1 u2 ud (putSt s b) (putErr s b)
  intro c9 a9 g9 h9
  simp only [Exit.then]
  have gB : Grow c5 c9 := ((l6.grow.trans l7.grow).trans T8.grow).trans g9
  refine wp_seq (aw_run (st := B_5 s b u0 u1 u2 ud (putSt s b) (putErr s b)) (ac := r5_5) (st' := B_6 s u0 u1 u2 ud b (putSt s b) (putErr s b)) h9 (by kernel_rfl) ?_ ?_)
  · exact own_rput_run s b u0 u1 u2 ud
  intro c10 a10 g10 h10
  simp only [Exit.then]
  refine wp_seq (wp_region ?_)
  show wpOps _ _ _ [0, 1, 2, 3, 4, 5, 6, 7, 8, 9] _ _
  rw [wpOps_cons]
  refine hand_eff (N := 142) (nx := 6) (st := B_6 s u0 u1 u2 ud b (putSt s b) (putErr s b)) (ao := .load true 4 (.tmp 5)) (r := .agg [.v u0, .v u1, .v u2, .v (.int .i64 s.next)]) (R := [2]) (W := []) (done' := fun j => j < 1) (RelR.start (st := B_6 s u0 u1 u2 ud b (putSt s b) (putErr s b)) h10) rfl rfl rfl (by kernel_rfl) rfl rfl (by omega) (fun j hj => by omega) ?_
  intro c11 a11 l11 h11
  rw [wpOps_cons]
  have q46 : a11.eval (.tmp 46) = .agg #[u0, u1, u2, .int .i64 s.next] := by
    obtain ⟨us, e1, _, _, rfl, _, rfl, _, _, rfl, _, rfl, _, _, rfl, _, rfl, _, _, rfl, _, rfl, rfl⟩ := h11.env 46
    exact e1
  obtain ⟨bk3, _⟩ := back c11 ((gB.trans g10).trans l11.grow)
  refine hand_call (N := 142) (nx := 6) (done' := fun j => j < 2) h11 rfl rfl rfl (exec_call (f := 19) (args := [.tmp 46]) (by kernel_rfl) (by rfl) a11 _) ?_ (fun j hj => by omega)
  show Calls _ _ #[a11.eval (.tmp 46)] _ _
  rw [q46]
  refine ((logSeal_A false s (6 + 64 * 1) hok).2 c11 [_] _ _ [] rfl h11.hr (fun id hid => ?_) ⟨_, _, rfl, bk3, rfl⟩).mono ?_
  · by_cases hn : c11.φ id = none
    · exact .inl hn
    · obtain ⟨j, q1, q2, q3⟩ := h11.fresh id (by show 6 ≤ id; omega) hn
      exact .inr (by omega)
  rintro e w' ⟨v, d12, rfl, rfl, hv12, T12⟩
  refine ⟨v, d12, _, rfl, rfl, hv12, T12, fun h12 => ?_⟩
  refine text_shut (k := 2) (rs := [⟨some 45, .mv (.tmp 47), none, [47], []⟩, ⟨some 48, .ext 0 (.tmp 45), none, [45], []⟩, ⟨some 49, .ext 1 (.tmp 45), none, [45], []⟩, ⟨some 50, .ext 2 (.tmp 45), none, [45], []⟩, ⟨some 11, .new 36 [(.slice none 0 0), (.slice none 0 0), (.slice none 0 0), (.int .i64 (0))], none, [], []⟩, ⟨none, .store 4 (.tmp 11) (.tmp 48), none, [11, 48], []⟩, ⟨some 12, .mv (.tmp 49), none, [49], []⟩, ⟨some 13, .mv (.tmp 50), none, [50], []⟩])
    (by decide) (by kernel_rfl) h12 rfl (st' := B_7 s u0 u1 u2 ud b (putSt s b) (slSt s) (putErr s b) (slErr s)) (keep := [2, 5, 6, 7, 8, 9, 10, 11, 13]) ?_ ?_
  · exact own_seal_run s b u0 u1 u2 ud (putSt s b) (slSt s) (putErr s b) (slErr s) (slAt s)
  intro c13 a13 g13 h13
  simp only [Exit.then]
  have gC : Grow c5 c13 := (((gB.trans g10).trans l11.grow).trans T12.grow).trans g13
  refine wp_seq (aw_run (st := B_7 s u0 u1 u2 ud b (putSt s b) (slSt s) (putErr s b) (slErr s)) (ac := r7_5) (st' := B_8 s u0 u1 u2 ud b (putSt s b) (slSt s) (putErr s b) (slErr s)) h13 (by kernel_rfl) ?_ ?_)
  · exact own_rseal_run s b u0 u1 u2 ud (putSt s b) (putErr s b)
  intro c14 a14 g14 h14
  simp only [Exit.then]
  have gD : Grow c5 c14 := gC.trans g14
  have gh := gD.gh Y5 c.w.heap.size (fun b' => c5.X b' ∨ c4.w.heap.size ≤ b')
  have X14 : c14.seen c.w.heap.size c4.w.heap.size = c14.gh c.w.heap.size (fun b' => c5.X b' ∨ c4.w.heap.size ≤ b') := by
    show c14.gh _ _ = _
    rw [gD.X]
  have L4 : c.w.heap.size ≤ c4.w.heap.size := by have := gA.size; rw [← hc0] at this; exact this
  have T4 : ∀ b', b' < c.w.heap.size → ¬ c4.T b' := by
    intro b' hb' hT
    rcases gA.held b' hT with h9 | h9
    · rw [← hc0] at h9
      obtain ⟨id, o, e1, _⟩ := h9
      have : c.σ id = some o := e1
      rw [hrel.σ] at this; cases this
    · rw [← hc0] at h9
      have : c.w.heap.size ≤ b' := h9
      omega
  have T5' : ∀ b', b' < c.w.heap.size → ¬ c5.T b' := fun b' hb' hT => T4 b' hb' (T5 b' hT)
  have Y0 : ∀ b', c0.Y b' = .no := by intro b'; rw [← hc0]; exact hY b'
  refine own_end s b (putSt s b) (slSt s) (putErr s b) (slErr s) u0 u1 u2 ud c.w.heap.size c4.w.heap.size L4 (by kernel_rfl) (ok_sz hok) (by have := hb.2.2.1; unfold reachB at this; omega) (ok_sz (okSt_put hok hb)) (ok_sz (okSt_seal hok)) h14 ?_ ?_
    (by rw [X14]; exact VR.lbm gh (lb_uSegs _) v0) (by rw [X14]; exact VR.lbm (p := fun fr => fr = true) gh ⟨rfl, lb_eBools _⟩ v1) (by rw [X14]; exact VR.lbm gh (lb_uBlks _) v2) (by rw [X14]; exact VR.lbm gh (lbB _) vd) ?_
  · rw [gD.B, ← hc5]; exact Nat.le_refl _
  · intro b' hb' hT
    rcases gD.held b' hT with h9 | h9
    · exact T5' b' hb' h9
    · rw [w5] at h9; omega
  · intro c' a' h' hbel
    show (_ ∨ _) ∧ _ ∧ _
    refine ⟨Or.inr rfl, h'.defers, ?_⟩
    obtain ⟨u, e1, e2⟩ := results_run (fn := Try.f5) h' (xs := [.tmp 4]) (l := [.v (.bool true)]) (by kernel_rfl) rfl
    refine ⟨u, ⟨c'.w, c.B, c'.φ, c'.σ, c.X, c'.Y⟩, e1, rfl, e2, ?_, rfl, fun _ h => h⟩
    have b1 : Below c.w.heap.size c.w c4.w := by
      refine ⟨?_, ?_, ?_, L4, fun b' hb' => ?_⟩
      · have := gA.osE; rw [← hc0] at this; exact this
      · have := gA.tape; rw [← hc0] at this; exact this
      · have := gA.out; rw [← hc0] at this; exact this
      · have := gA.stay b' (by rw [← hc0]; exact hb') (fun h9 => ?_) (fun _ => Y0 b')
        · rw [← hc0] at this; exact this
        · rw [← hc0] at h9
          obtain ⟨id, o, e1, _⟩ := h9
          have : c.σ id = some o := e1
          rw [hrel.σ] at this; cases this
    have b2 : Below c.w.heap.size c4.w c14.w := by
      rw [← w5]
      exact ⟨gD.osE, gD.tape, gD.out, gD.size, fun b' hb' => gD.stay b' (by rw [w5]; omega) (T5' b' hb') (fun _ => Y5 b')⟩
    exact (b1.trans b2).trans hbel
theorem logOwn_row (_f _g : Bool) (s : St) (b : Blk) (nb : Nat) (hok : okSt s) (hb : okBlk b) : ASound Try.prog 5 [aSt false s, aBlk false b] nb (.ret (.v (.bool true)) []) := logOwn_spec s b nb hok hb
end Go.Proofs.Ytfoeddmbhmfjcaa
