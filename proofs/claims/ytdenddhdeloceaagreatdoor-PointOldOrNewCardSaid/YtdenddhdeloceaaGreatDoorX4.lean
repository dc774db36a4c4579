/- Merged texts: AQ, AS, KI, KF, UW, UX, UY, W0, W1, W2, W3, W4, W5, W6, W7, W8, W9, WA, KG, WB, KH, WC. -/
import Derived.Test.YtdenddhdeloceaaGreatDoorX1
import Derived.RangeFuncNested
import Derived.RangeFuncBound
import Derived.RangeFuncCalls
import Derived.Test.YtdenddhdeloceaaGreatDoorProg
import Derived.Test.YtdenddhdeloceaaGreatDoorX3
set_option linter.unusedSimpArgs false
set_option linter.unusedVariables false
/- A range over a function: what its rounds do, one behind the other. -/
namespace Go.Proofs.YtdenddhdeloceaaGreatDoor
open Go.RowKit
variable {P : Program} {N m : Nat}
/-- what nobody writes lies asg it lay -/
def Kc (c : Cx) (A B : World) : Prop := ∀ b, b < c.w.heap.size → ¬ c.T b → (c.X b → c.Y b = .no) → B.heap[b]? = A.heap[b]?
/-- Function gf, with such captured values, yields what L says, in order, until it is told to stop. -/
def IterA (P : Program) (gf : Nat) (caps : List AV) (L : List (List AV)) : Prop :=
  enters P gf = true ∧ ∀ (c : Cx) (lb : List Value), HR c → VRt c caps lb → ∃ V : _root_.Fin L.length → List Value, (∀ i, VRt c L[i] (V i)) ∧
    SeqStopsK Fence.wide 2 P gf lb.toArray (fun i => (V i).toArray) (Kc c) (fun xs => xs = List.finRange L.length) (fun pre => ∃ k, k < L.length ∧ pre = (List.finRange L.length).take (k + 1)) L.length c.w
def bindP : List Nat → List AV → (Nat → AV) → (Nat → AV)
  | p :: ps, x :: xs, env => bindP ps xs (putE env (some p) x)
  | _, _, env => env
def mvE : List (Nat × Operand) → (Nat → AV) → (Nat → AV)
  | [], env => env
  | (d, x) :: r, env => mvE r (putE env (some d) (evA env x))
def mvAct : List (Nat × Operand) → Act → Act
  | [], a => a
  | (d, x) :: r, a => mvAct r (a.put (some d) (a.eval x))
theorem RelR.set {nx : Nat} {done : Nat → Prop} {c : Cx} {st : ASt} {a : Act} (h : RelR N nx done c st a) {d : Nat} (hd : d < N) {x : AV} {v : Value} (hv : VR c x v) : RelR N nx done c ⟨putE st.env (some d) x, st.σ, st.nx⟩ (a.put (some d) v) := by
  refine ⟨by simp [Act.put, h.size], fun t => ?_, h.hr, h.σ, h.fresh⟩
  simp only [putE, Act.put]
  by_cases e : t = d
  · subst e
    rw [if_pos rfl]
    have : (a.tmps.setIfInBounds t v).getD t undef = v := by simp [h.size, hd]
    rw [this]; exact hv
  · rw [if_neg e]
    have : (a.tmps.setIfInBounds d v).getD t undef = a.tmps.getD t undef := by simp [Array.getElem?_setIfInBounds_ne (Ne.symm e)]
    rw [this]; exact h.env t
theorem RelR.mvs {nx : Nat} {done : Nat → Prop} {c : Cx} : ∀ {mv : List (Nat × Operand)} {st : ASt} {a : Act}, RelR N nx done c st a → (∀ q ∈ mv, q.1 < N) → RelR N nx done c ⟨mvE mv st.env, st.σ, st.nx⟩ (mvAct mv a)
  | [], st, a, h, _ => h
  | (d, x) :: r, st, a, h, hq => RelR.mvs (mv := r) (st := ⟨putE st.env (some d) (evA st.env x), st.σ, st.nx⟩) (h.set (hq (d, x) (by simp)) (h.eval x)) (fun q hq' => hq q (by simp [hq']))
theorem RelR.binds {nx : Nat} {done : Nat → Prop} {c : Cx} : ∀ {ps : List Nat} {l : List AV} {vs : List Value} {st : ASt} {a : Act}, RelR N nx done c st a → (∀ p ∈ ps, p < N) → VRt c l vs →
    RelR N nx done c ⟨bindP ps l st.env, st.σ, st.nx⟩ { a with tmps := (ps.zip vs).foldl (fun t q => t.setIfInBounds q.1 q.2) a.tmps }
  | [], l, vs, st, a, h, _, _ => by cases l <;> exact h
  | p :: ps, [], vs, st, a, h, _, hv => by rw [VRt] at hv; subst hv; exact h
  | p :: ps, x :: l, vs, st, a, h, hp, hv => by
    rw [VRt] at hv
    obtain ⟨u, us, rfl, h1, h2⟩ := hv
    exact RelR.binds (st := ⟨putE st.env (some p) x, st.σ, st.nx⟩) (a := a.put (some p) u) (h.set (hp p (by simp)) h1) (fun q hq => hp q (by simp [hq])) h2
theorem mvOps_wp {ro : Option Nat} {n : Nat} {ops : Array Oper} {Q : Exit → Act → World → Prop} : ∀ {l : List Oper} {mv : List (Nat × Operand)} {k : Nat} {a : Act} {W : World}, mvOps l = some mv → (∀ (j : Nat) o, l[j]? = some o → ops[k + j]? = some o) → Q .normal (mvAct mv a) W →
    wpOpsIn (FR ro) n P ops Q (List.range' k l.length) a W
  | [], mv, k, a, W, h, _, hq => by
    simp [mvOps] at h; subst h
    simpa [wpOpsIn, mvAct] using hq
  | o :: r, mv, k, a, W, h, hl, hq => by
    rw [List.length_cons, List.range'_succ, wpOpsIn_cons]
    have h0 := hl 0 o rfl
    rw [Nat.add_zero] at h0
    rw [mvOps] at h
    have go : ∀ (x : Operand) (d : Nat) (mv' : List (Nat × Operand)), o.guard = none → o.dst = some d → (∀ c, o.op ≠ .defer c) → (∀ W, (execOp a.eval o).run P W = .ok (.value (a.eval x)) W) → mvOps r = some mv' → mv = (d, x) :: mv' →
        wpOpIn (FR ro) n P ops Q k (wpOpsIn (FR ro) n P ops Q (List.range' (k + 1) r.length)) a W := by
      intro x d mv' hg hd hnd hrun hm e
      subst e
      unfold wpOpIn
      rw [h0]
      simp only
      rw [if_pos (by simp [Region.wanted, hg])]
      refine ⟨fun _ _ => trivial, ?_⟩
      rw [Oper.semAt_eq _ _ _ hnd, hrun, Oper.uponIn_value, hd]
      exact mvOps_wp hm (fun j o' hj => by have := hl (j + 1) o' (by simpa using hj); rwa [Nat.add_assoc, Nat.add_comm 1 j]) hq
    split at h
    · rename_i x d e1 e2 e3
      split at h
      · rename_i mv' hm
        cases h
        exact go x d mv' e3 e2 (by rw [e1]; intro c hc; cases hc) (fun W => by simp [execOp, e1]) hm rfl
      · cases h
    · rename_i x d e1 e2 e3
      split at h
      · rename_i mv' hm
        cases h
        exact go x d mv' e3 e2 (by rw [e1]; intro c hc; cases hc) (fun W => by simp [execOp, e1]) hm rfl
      · cases h
    · cases h
theorem mv_wp {ro : Option Nat} {n : Nat} : ∀ {asg : Code} {mv : List (Nat × Operand)} {a : Act} {W : World} {Q : Exit → Act → World → Prop}, compMv asg = some mv → Q .normal (mvAct mv a) W → asg.wpIn (FR ro) n P Q a W
  | .skip, mv, a, W, Q, h, hk => by simp [compMv] at h; subst h; exact wpIn_skip hk
  | .region id ops draw, mv, a, W, Q, h, hk => by
    rw [compMv] at h
    split at h
    · cases h
    · rename_i hd
      have hd : draw = false := by simpa using hd
      subst hd
      refine wpIn_region ?_
      have := mvOps_wp (ro := ro) (n := n) (P := P) (ops := ops) (Q := Q) (k := 0) (a := a) (W := W) h (fun j o hj => by simpa using hj) hk
      rw [List.range_eq_range']
      simpa using this
  | .seq x y, mv, a, W, Q, h, hk => by
    rw [compMv] at h
    split at h
    · rename_i l hl
      split at h
      · rename_i r hr
        cases h
        have happ : ∀ (l r : List (Nat × Operand)) (a : Act), mvAct (l ++ r) a = mvAct r (mvAct l a) := by
          intro l
          induction l with
          | nil => intro r a; rfl
          | cons q l ih => intro r a; exact ih r _
        rw [happ] at hk
        exact wpIn_seq (mv_wp hl (mv_wp (Q := Q) hr hk))
      · cases h
    · cases h
/-- how a round may end -/
def rngK (N m1 : Nat) {α : Type} (F : List α → Heap × Nat) (X : Exit → List α → Heap → Nat → Prop) (xs : List α) : Exit → ASt → Prop
  | .normal, s => Weak N m1 s ⟨fun _ => .any, (F xs).1, (F xs).2⟩
  | .ret, s => X .ret xs s.σ s.nx
  | .exit id, s => X (.exit id) xs s.σ s.nx
  | _, _ => False
theorem Grow.reYback {c d : Cx} {Y : Nat → WK} (hY : ∀ b, Y b = c.Y b ∨ (Y b = .no ∧ ∀ cs e f, c.w.heap[b]? ≠ some (.cells cs e f))) (g : Grow (c.reY Y) d) : Grow c (d.reY c.Y) := by
  refine ⟨g.X, g.B, g.out, g.osE, g.tape, g.size, fun b hb ht hy => ?_, g.held, g.shape, rfl, fun b k sz h1 h2 h3 h4 h5 => ?_⟩
  · refine g.stay b hb ht (fun hx => ?_)
    rcases hY b with h | ⟨h, _⟩
    · show Y b = .no; rw [h]; exact hy hx
    · exact h
  · refine g.wild b k sz h1 h2 ?_ h4 h5
    rcases hY b with h | ⟨_, h⟩
    · show Y b = k; rw [h]; exact h3
    · obtain ⟨cs, e, h6, _⟩ := h5
      exact absurd h6 (h _ _ _)
theorem AWc.range {g : Operand} {ps : List Nat} {mv : List (Nat × Operand)} {b : AC} {st : ASt} {Q : Exit → ASt → Prop} {gf : Nat} {caps : List AV} {L : List (List AV)} (m1 : Nat) (hm : m ≤ m1)
    (hg : evA st.env g = .fn gf caps) (hI : IterA P gf caps L) (hfl : b.flat = true)
    (hLp : ∀ l ∈ L, AlNL (fun i => i < m1) l ∧ l.length = ps.length) (hlow : ∀ t, AlN (fun i => i < m1) (st.env t))
    (F : List (_root_.Fin L.length) → Heap × Nat) (hF0 : F [] = (st.σ, st.nx)) (hFn : ∀ pre, m1 ≤ (F pre).2)
    (X : Exit → List (_root_.Fin L.length) → Heap → Nat → Prop)
    (hbody : ∀ (pre : List (_root_.Fin L.length)) (i : _root_.Fin L.length), pre.length < L.length → wpC P N m1 b ⟨mvE mv (bindP ps L[i] st.env), (F pre).1, (F pre).2⟩ (rngK N m1 F X (pre ++ [i])))
    (hdone : Q .normal ⟨st.env, (F (List.finRange L.length)).1, (F (List.finRange L.length)).2⟩)
    (hstop : ∀ (k : Nat) (e : Exit) (σ : Heap) (nx : Nat), k < L.length → X e ((List.finRange L.length).take (k + 1)) σ nx → Q e ⟨st.env, σ, nx⟩) : AWc P N m (.rfunc g ps mv b) st Q := by
  intro code hc ro hro
  have hro : ro = none := hro.resolve_right (by simp [AC.flat])
  subst hro
  obtain ⟨pa, asg, x, rfl, rfl, hmv, hx, hps, hmvN⟩ := comp_rfunc hc
  intro n c a hr hmn
  have hv := hr.eval g
  rw [hg] at hv
  obtain ⟨lb, hgu, hlb⟩ := hv
  obtain ⟨hent, hI⟩ := hI
  obtain ⟨V, hV, hseq⟩ := hI c lb hr.hr hlb
  show (Code.rangeFunc g pa asg x).wpIn Fence.wide n P _ a c.w
  rw [wpIn_wide, ← wpIn_wide (n := 3)]
  have hVl : ∀ i, (V i).length = pa.size := fun i => by
    rw [(VRt_iff.1 (hV i)).1, (hLp L[i] (by exact List.getElem_mem _)).2]; simp
  have envs : ∀ {c' : Cx} {σ : Heap} {nx : Nat}, Grow c c' → (∀ id, id < m1 → c'.φ id = c.φ id) → HR c' → c'.σ = σ → (∀ id, nx ≤ id → c'.φ id = none) → RelR N nx No c' ⟨st.env, σ, nx⟩ a := by
    intro c' σ nx hgr hl hh hs hf
    exact ⟨hr.size, fun t => (hr.env t).monoP (p := fun i => i < m1) hgr (fun id y h1 h2 => by rw [hl id h1]; exact h2) (hlow t), hh, hs, fun id h1 h2 => absurd (hf id h1) h2⟩
  have fresh' : ∀ {nx : Nat} {c' : Cx} {s : ASt} {a' : Act}, RelR N nx No c' s a' → ∀ id, nx ≤ id → c'.φ id = none := by
    intro nx c' s a' h id hid
    cases hq : c'.φ id with
    | none => rfl
    | some y => obtain ⟨j, hj, _⟩ := h.fresh id hid (by rw [hq]; simp); exact hj.elim
  refine wpIn_rangeFunc_ownF (F := Fence.wide) (n := 3) rfl (by decide) hgu trivial (fun args w => run_callFunc hent args w) hseq (fun h k b h1 h2 h3 => (k b h1 h2 h3).trans (h b h1 h2 h3))
    (fun W l o o' hl _ _ _ b h1 _ _ => World.putObj_heap_other (by omega)) (Below.refl _ _) (fun i => by simp [hVl i])
    (fun pre W => ∃ c', c'.w = W ∧ Grow c c' ∧ (∀ id, id < m1 → c'.φ id = c.φ id) ∧ RelR N (F pre).2 No c' ⟨st.env, (F pre).1, (F pre).2⟩ a)
    (fun cd pre W => ∃ (e : Exit) (σ : Heap) (nx : Nat) (c' : Cx), ((cd = .ret ∧ e = .ret) ∨ ∃ id, cd = .exit id ∧ e = .exit id) ∧ c'.w = W ∧ Grow c c' ∧ (∀ id, id < m1 → c'.φ id = c.φ id) ∧ RelR N nx No c' ⟨st.env, σ, nx⟩ a ∧ m1 ≤ nx ∧ X e pre σ nx)
    ?_ ?_ ⟨c, rfl, Grow.refl c, fun _ _ => rfl, by rw [hF0]; exact hr⟩ (fun i => mvAct mv { tmps := (pa.zip (V i).toArray).foldl (fun t q => t.setIfInBounds q.1 q.2) a.tmps, defers := [] }) ?_ ?_ ?_ ?_
  · rintro pre W W' row ⟨c', rfl, h1, h2, h3⟩ hgr hrow
    have hs : Side c.w.heap.size c' W' := Side.grown hgr hrow
    exact ⟨c'.at W', rfl, h1.side hs (Nat.le_refl _), h2, h3.side hs⟩
  · rintro cd pre W W' row ⟨e, σ, nx, c', h0, rfl, h1, h2, h3, h4, h5⟩ hgr hrow
    have hs : Side c.w.heap.size c' W' := Side.grown hgr hrow
    exact ⟨e, σ, nx, c'.at W', h0, rfl, h1.side hs (Nat.le_refl _), h2, h3.side hs, h4, h5⟩
  · intro l i W K hK
    exact mv_wp (ro := some l) (Q := Exit.then K (fun _ _ _ => False)) hmv hK
  · rintro l pre i W ⟨c', rfl, h1, h2, h3⟩ hlen
    classical
    obtain ⟨Y, hY⟩ : ∃ Y : Nat → WK, ∀ b, Y b = if ∃ cs e f, c'.w.heap[b]? = some (.cells cs e f) then c'.Y b else .no := ⟨_, fun b => rfl⟩
    have hY1 : ∀ b, Y b = c'.Y b ∨ (Y b = .no ∧ ∀ cs e f, c'.w.heap[b]? ≠ some (.cells cs e f)) := fun b => by
      rw [hY b]
      split
      · exact .inl rfl
      · rename_i h; exact .inr ⟨rfl, fun cs e f h9 => h ⟨cs, e, f, h9⟩⟩
    have hwok : ∀ k b n, c'.wok k b n → (c'.reY Y).wok k b n := by
      rintro k b n ⟨k1, k2, k3, k4, sz, ⟨cs, e, k5, k6⟩, k7⟩
      refine ⟨k1, k2, ?_, k4, sz, ⟨cs, e, k5, k6⟩, k7⟩
      rcases hY1 b with h | ⟨_, h⟩
      · show Y b = k; rw [h]; exact k3
      · exact absurd k5 (h _ _ _)
    have hno : ∀ b, c'.Y b = .no → Y b = .no := fun b h => by
      rcases hY1 b with h9 | ⟨h9, _⟩
      · rw [h9, h]
      · exact h9
    have hr1 : RelR N (F pre).2 No (c'.reY Y) ⟨st.env, (F pre).1, (F pre).2⟩ { tmps := a.tmps, defers := [] } :=
      ⟨h3.size, fun t => (h3.env t).reY hwok, h3.hr.reY (fun b v hb hx => hno b ((h3.hr.gl b v hb).2.2 hx)) hwok, h3.σ, h3.fresh⟩
    have hV2 : VRt (c'.reY Y) L[i] (V i) := ((hV i).monoP (p := fun i => i < m1) h1 (fun id y q1 q2 => by rw [h2 id q1]; exact q2) (hLp L[i] (by exact List.getElem_mem _)).1).reY hwok
    have hr2 := (hr1.binds hps hV2).mvs hmvN
    have hz : (pa.zip (V i).toArray).foldl (fun t q => t.setIfInBounds q.1 q.2) a.tmps = (pa.toList.zip (V i)).foldl (fun t q => t.setIfInBounds q.1 q.2) a.tmps := by
      rw [← Array.foldl_toList, Array.toList_zip]
    have hb := wpC_sound (hbody pre i hlen) x hx (some l) (.inr hfl) 1 (c'.reY Y) _ hr2 (hFn pre)
    rw [hz]
    refine wpIn_mono hb ?_
    have fin : ∀ {c3 : Cx} {s3 : ASt} {a3 : Act}, Grow (c'.reY Y) c3 → (∀ id, id < m1 → c3.φ id = (c'.reY Y).φ id) → RelR N s3.nx No c3 s3 a3 →
        KeepsOthers c'.w c3.w ∧ Kc c c'.w c3.w ∧ Grow c (c3.reY c'.Y) ∧ (∀ id, id < m1 → (c3.reY c'.Y).φ id = c.φ id) ∧ RelR N s3.nx No (c3.reY c'.Y) ⟨st.env, s3.σ, s3.nx⟩ a := by
      intro c3 s3 a3 hg3 hl3 hr3
      have hgg : Grow c (c3.reY c'.Y) := h1.trans (hg3.reYback hY1)
      have hll : ∀ id, id < m1 → (c3.reY c'.Y).φ id = c.φ id := fun id hid => (hl3 id hid).trans (h2 id hid)
      have hY3 : c3.Y = Y := hg3.Y
      have hh : HR (c3.reY c'.Y) := hr3.hr.reY (fun b v hb hx => (h3.hr.gl b v hb).2.2 (by rw [hg3.X] at hx; exact hx)) (by
        rintro k b n ⟨k1, k2, k3, k4, k5⟩
        refine ⟨k1, k2, ?_, k4, k5⟩
        rw [hY3] at k3
        rcases hY1 b with h | ⟨h, _⟩
        · show c'.Y b = k; rw [← h]; exact k3
        · rw [h] at k3; subst k3; rcases k4 with k4 | k4 <;> cases k4)
      refine ⟨⟨hg3.size, fun k o hk ho => ?_⟩, fun b q1 q2 q3 => ?_, hgg, hll, envs hgg hll hh hr3.σ (fun id hid => fresh' hr3 id hid)⟩
      · refine (hg3.stay k (Array.getElem?_eq_some_iff.1 hk).1 (fun ht => ?_) (fun _ => ?_)).trans hk
        · obtain ⟨cs, e, f, h9⟩ := h3.hr.T_cells ht
          rw [hk] at h9; cases h9; cases ho
        · show Y k = .no
          rw [hY k, if_neg]
          rintro ⟨cs, e, f, h9⟩
          rw [hk] at h9; cases h9; cases ho
      · refine hg3.stay b (Nat.lt_of_lt_of_le q1 h1.size) (fun ht => ?_) (fun hx => ?_)
        · rcases h1.held b ht with h9 | h9
          · exact q2 h9
          · omega
        · refine hno b ?_
          rw [h1.Y]; exact q3 (by rw [← h1.X]; exact hx)
    rintro e a' w' ⟨c2, s2, rfl, ga, low2, rel2, hm2, hq⟩
    cases e with
    | normal =>
      obtain ⟨c3, w3, g3, low3, rel3, hm3⟩ := hq c2 a' rel2 hm2
      obtain ⟨k1, k2, k3, k4, k5⟩ := fin (ga.g.trans g3) (fun id hid => (low3 id hid).trans (low2 id hid)) rel3
      rw [w3] at k1 k2
      exact ⟨k1, k2, c3.reY c'.Y, w3, k3, k4, k5⟩
    | ret =>
      obtain ⟨k1, k2, k3, k4, k5⟩ := fin ga.g low2 rel2
      exact ⟨k1, .ret, s2.σ, s2.nx, c2.reY c'.Y, .inl ⟨rfl, rfl⟩, rfl, k3, k4, k5, hm2, hq⟩
    | exit id =>
      obtain ⟨k1, k2, k3, k4, k5⟩ := fin ga.g low2 rel2
      exact ⟨k1, .exit id, s2.σ, s2.nx, c2.reY c'.Y, .inr ⟨id, rfl, rfl⟩, rfl, k3, k4, k5, hm2, hq⟩
    | _ => exact hq.elim
  · rintro D xs W hD rfl ⟨c', rfl, h1, h2, h3⟩ hdd
    exact ⟨c', _, rfl, ⟨h1, [{ target := .collected D, args := #[] }], rfl, by simp, fun d hd => by rw [List.mem_singleton] at hd; exact ⟨D, hd, hD, hdd⟩⟩, fun id hid => h2 id (Nat.lt_of_lt_of_le hid hm), ⟨h3.size, h3.env, h3.hr, h3.σ, h3.fresh⟩, Nat.le_trans hm (hFn _), hdone⟩
  · rintro D cd pre W hD ⟨k, hk, rfl⟩ ⟨e, σ, nx, c', h0, rfl, h1, h2, h3, h4, h5⟩ hdd
    have key : ∃ c'' st', c''.w = c'.w ∧ GoA c a c'' { a with defers := { target := .collected D, args := #[] } :: a.defers } ∧ (∀ id, id < m → c''.φ id = c.φ id) ∧ RelR N st'.nx No c'' st' { a with defers := { target := .collected D, args := #[] } :: a.defers } ∧ m ≤ st'.nx ∧ Q e st' :=
      ⟨c', ⟨st.env, σ, nx⟩, rfl, ⟨h1, [{ target := .collected D, args := #[] }], rfl, by simp, fun d hd => by rw [List.mem_singleton] at hd; exact ⟨D, hd, hD, hdd⟩⟩, fun id hid => h2 id (Nat.lt_of_lt_of_le hid hm), ⟨h3.size, h3.env, h3.hr, h3.σ, h3.fresh⟩, Nat.le_trans hm h4, hstop k e σ nx hk h5⟩
    rcases h0 with ⟨rfl, rfl⟩ | ⟨id, rfl, rfl⟩
    · exact wpIn_ret key
    · exact wpIn_exit key
theorem RelR.envs {c c' : Cx} {env : Nat → AV} {σ0 σ : Heap} {nx0 nx m1 : Nat} {a : Act} (hr : RelR N nx0 No c ⟨env, σ0, nx0⟩ a) (hlow : ∀ t, AlN (fun i => i < m1) (env t)) (hgr : Grow c c') (hl : ∀ id, id < m1 → c'.φ id = c.φ id) (hh : HR c') (hs : c'.σ = σ) (hf : ∀ id, nx ≤ id → c'.φ id = none) :
    RelR N nx No c' ⟨env, σ, nx⟩ a :=
  ⟨hr.size, fun t => (hr.env t).monoP (p := fun i => i < m1) hgr (fun id y h1 h2 => by rw [hl id h1]; exact h2) (hlow t), hh, hs, fun id h1 h2 => absurd (hf id h1) h2⟩
theorem RelR.none {nx : Nat} {c' : Cx} {s : ASt} {a' : Act} (h : RelR N nx No c' s a') : ∀ id, nx ≤ id → c'.φ id = none := by
  intro id hid
  cases hq : c'.φ id with
  | none => rfl
  | some y => obtain ⟨j, hj, _⟩ := h.fresh id hid (by rw [hq]; simp); exact hj.elim
/-- how what is ahead of the body may end -/
def asgK (N m1 : Nat) (s1 s0 : ASt) : Exit → ASt → Prop
  | .normal, s => Weak N m1 s s1 ∧ Weak N m1 s1 ⟨fun _ => .any, s0.σ, s0.nx⟩
  | _, _ => False
/-- how a round may end that leaves memory asg it was -/
def rngC (N m1 : Nat) (s0 : ASt) (ok : Prop) (X : Exit → Heap → Nat → Prop) : Exit → ASt → Prop
  | .normal, s => ok ∧ Weak N m1 s ⟨fun _ => .any, s0.σ, s0.nx⟩
  | .ret, s => X .ret s.σ s.nx
  | .exit id, s => X (.exit id) s.σ s.nx
  | _, _ => False
theorem keeps_from {c c1 c3 : Cx} (h0 : HR c) (h1 : Grow c c1) (hh : HR c1) (g : Grow c1 c3) : KeepsFrom c.w.heap.size c1.w c3.w ∧ Kc c c1.w c3.w := by
  refine ⟨⟨g.size, fun k o hB hk ho => ?_⟩, fun b q1 q2 q3 => ?_⟩
  · refine (g.stay k (Array.getElem?_eq_some_iff.1 hk).1 (fun ht => ?_) (fun hx => ?_)).trans hk
    · obtain ⟨cs, e, f, h9⟩ := hh.T_cells ht
      rw [hk] at h9; cases h9; cases ho
    · rw [h1.X] at hx
      have := h0.xlt k hx; omega
  · refine g.stay b (Nat.lt_of_lt_of_le q1 h1.size) (fun ht => ?_) (fun hx => ?_)
    · rcases h1.held b ht with h9 | h9
      · exact q2 h9
      · omega
    · rw [h1.Y]; exact q3 (by rw [← h1.X]; exact hx)
/-- a range whose rounds leave memory asg it was; what is ahead of the body may lay rows of the round's own -/
theorem AWc.rangeC {g : Operand} {ps : List Nat} {asg b : AC} {st : ASt} {Q : Exit → ASt → Prop} {gf : Nat} {caps : List AV} {L : List (List AV)} (m1 : Nat) (hm : m ≤ m1) (hnx : m1 ≤ st.nx)
    (hg : evA st.env g = .fn gf caps) (hI : IterA P gf caps L) (hfa : asg.flat = true) (hfl : b.flat = true)
    (hLp : ∀ l ∈ L, AlNL (fun i => i < m1) l ∧ l.length = ps.length) (hlow : ∀ t, AlN (fun i => i < m1) (st.env t))
    (SA : _root_.Fin L.length → ASt) (hSn : ∀ i, m1 ≤ (SA i).nx)
    (X : Exit → _root_.Fin L.length → Heap → Nat → Prop) (ok : _root_.Fin L.length → Prop)
    (hasg : ∀ i : _root_.Fin L.length, wpC P N m1 asg ⟨bindP ps L[i] st.env, st.σ, st.nx⟩ (asgK N m1 (SA i) st))
    (hbody : ∀ i : _root_.Fin L.length, wpC P N m1 b (SA i) (rngC N m1 st (ok i) (fun e σ nx => X e i σ nx)))
    (hdone : (∀ i, ok i) → Q .normal st)
    (hstop : ∀ (k : _root_.Fin L.length) (e : Exit) (σ : Heap) (nx : Nat), (∀ i, i < k → ok i) → X e k σ nx → Q e ⟨st.env, σ, nx⟩) : AWc P N m (.rfuncC g ps asg b) st Q := by
  intro code hc ro hro
  have hro : ro = none := hro.resolve_right (by simp [AC.flat])
  subst hro
  obtain ⟨pa, asc, x, rfl, rfl, has, hx, hps⟩ := comp_rfuncC hc
  intro n c a hr hmn
  have hv := hr.eval g
  rw [hg] at hv
  obtain ⟨lb, hgu, hlb⟩ := hv
  obtain ⟨hent, hI⟩ := hI
  obtain ⟨V, hV, hseq⟩ := hI c lb hr.hr hlb
  show (Code.rangeFunc g pa asc x).wpIn Fence.wide n P _ a c.w
  rw [wpIn_wide, ← wpIn_wide (n := 3)]
  have hVl : ∀ i, (V i).length = pa.size := fun i => by
    rw [(VRt_iff.1 (hV i)).1, (hLp L[i] (by exact List.getElem_mem _)).2]; simp
  refine wpIn_rangeFunc_ownH (F := Fence.wide) (n := 3) rfl (by decide) hgu trivial (fun args w => run_callFunc hent args w) hseq (fun h k b h1 h2 h3 => (k b h1 h2 h3).trans (h b h1 h2 h3))
    (fun W l o o' hl _ _ _ b h1 _ _ => World.putObj_heap_other (by omega)) (Below.refl _ _) (fun i => by simp [hVl i])
    (fun pre W => (∀ i ∈ pre, ok i) ∧ ∃ c', c'.w = W ∧ Grow c c' ∧ (∀ id, id < m1 → c'.φ id = c.φ id) ∧ RelR N st.nx No c' ⟨st.env, st.σ, st.nx⟩ a)
    (fun cd pre W => ∃ (pre' : List (_root_.Fin L.length)) (i : _root_.Fin L.length) (e : Exit) (σ : Heap) (nx : Nat) (c' : Cx), pre = pre' ++ [i] ∧ (∀ j ∈ pre', ok j) ∧ ((cd = .ret ∧ e = .ret) ∨ ∃ id, cd = .exit id ∧ e = .exit id) ∧ c'.w = W ∧ Grow c c' ∧ (∀ id, id < m1 → c'.φ id = c.φ id) ∧ RelR N nx No c' ⟨st.env, σ, nx⟩ a ∧ m1 ≤ nx ∧ X e i σ nx)
    ?_ ?_ ⟨by simp, c, rfl, Grow.refl c, fun _ _ => rfl, hr⟩ (fun i a' W => ∃ c', c'.w = W ∧ Grow c c' ∧ (∀ id, id < m1 → c'.φ id = c.φ id) ∧ RelR N (SA i).nx No c' (SA i) a') ?_ ?_ ?_ ?_ ?_
  · rintro pre W W' row ⟨hok, c', rfl, h1, h2, h3⟩ hgr hrow
    have hs : Side c.w.heap.size c' W' := Side.grown hgr hrow
    exact ⟨hok, c'.at W', rfl, h1.side hs (Nat.le_refl _), h2, h3.side hs⟩
  · rintro cd pre W W' row ⟨pre', i, e, σ, nx, c', hp, hok, h0, rfl, h1, h2, h3, h4, h5⟩ hgr hrow
    have hs : Side c.w.heap.size c' W' := Side.grown hgr hrow
    exact ⟨pre', i, e, σ, nx, c'.at W', hp, hok, h0, rfl, h1.side hs (Nat.le_refl _), h2, h3.side hs, h4, h5⟩
  · rintro i a' u W W' row ⟨c', rfl, h1, h2, h3⟩ hgr hrow
    have hs : Side c.w.heap.size c' W' := Side.grown hgr hrow
    exact ⟨c'.at W', rfl, h1.side hs (Nat.le_refl _), h2, h3.side hs⟩
  · rintro l pre i W K ⟨hok, c', rfl, h1, h2, h3⟩ hK
    have hr1 : RelR N st.nx No c' ⟨st.env, st.σ, st.nx⟩ { tmps := a.tmps, defers := [] } := ⟨h3.size, h3.env, h3.hr, h3.σ, h3.fresh⟩
    have hV2 : VRt c' L[i] (V i) := (hV i).monoP (p := fun i => i < m1) h1 (fun id y q1 q2 => by rw [h2 id q1]; exact q2) (hLp L[i] (by exact List.getElem_mem _)).1
    have hz : (pa.zip (V i).toArray).foldl (fun t q => t.setIfInBounds q.1 q.2) a.tmps = (pa.toList.zip (V i)).foldl (fun t q => t.setIfInBounds q.1 q.2) a.tmps := by
      rw [← Array.foldl_toList, Array.toList_zip]
    have hb := wpC_sound (hasg i) asc has (some l) (.inr hfa) 1 c' _ (hr1.binds hps hV2) hnx
    rw [hz]
    refine wpIn_mono hb ?_
    rintro e a' w' ⟨c2, s2, rfl, ga, low2, rel2, hm2, hq⟩
    cases e with
    | normal =>
      obtain ⟨q1, q2⟩ := hq
      obtain ⟨c3, w3, g3, low3, rel3, hm3⟩ := q1 c2 a' rel2 hm2
      obtain ⟨c4, w4, g4, low4, rel4, hm4⟩ := q2 c3 a' rel3 hm3
      obtain ⟨k1, k2⟩ := keeps_from hr.hr h1 h3.hr ga.g
      have l2' : ∀ id, id < m1 → c2.φ id = c.φ id := fun id hid => (low2 id hid).trans (h2 id hid)
      have l3' : ∀ id, id < m1 → c3.φ id = c.φ id := fun id hid => (low3 id hid).trans (l2' id hid)
      have l4' : ∀ id, id < m1 → c4.φ id = c.φ id := fun id hid => (low4 id hid).trans (l3' id hid)
      have G3 : Grow c c3 := (h1.trans ga.g).trans g3
      refine hK a' c2.w k1 k2 ⟨hok, c4, w4.trans w3, G3.trans g4, l4', ?_⟩ ⟨c3, w3, G3, l3', rel3⟩
      exact RelR.envs (m1 := m1) hr hlow (G3.trans g4) l4' rel4.hr rel4.σ rel4.none
    | _ => exact hq.elim
  · rintro l pre i a' W hl hlp ⟨hok, _⟩ ⟨c', rfl, h1, h2, h3⟩ hlen
    have hb := wpC_sound (hbody i) x hx (some l) (.inr hfl) 1 c' a' h3 (hSn i)
    refine wpIn_mono hb ?_
    rintro e a2 w' ⟨c2, s2, rfl, ga, low2, rel2, hm2, hq⟩
    have l2' : ∀ id, id < m1 → c2.φ id = c.φ id := fun id hid => (low2 id hid).trans (h2 id hid)
    cases e with
    | normal =>
      obtain ⟨q0, q1⟩ := hq
      obtain ⟨c3, w3, g3, low3, rel3, hm3⟩ := q1 c2 a2 rel2 hm2
      obtain ⟨k1, k2⟩ := keeps_from hr.hr h1 h3.hr ga.g
      have l3' : ∀ id, id < m1 → c3.φ id = c.φ id := fun id hid => (low3 id hid).trans (l2' id hid)
      have G3 : Grow c c3 := (h1.trans ga.g).trans g3
      refine ⟨k1, k2, fun j hj => ?_, c3, w3, G3, l3', RelR.envs (m1 := m1) hr hlow G3 l3' rel3.hr rel3.σ rel3.none⟩
      rcases List.mem_append.1 hj with hj | hj
      · exact hok j hj
      · rw [List.mem_singleton] at hj; subst hj; exact q0
    | ret =>
      obtain ⟨k1, k2⟩ := keeps_from hr.hr h1 h3.hr ga.g
      exact ⟨k1, pre, i, .ret, s2.σ, s2.nx, c2, rfl, hok, .inl ⟨rfl, rfl⟩, rfl, h1.trans ga.g, l2', RelR.envs (m1 := m1) hr hlow (h1.trans ga.g) l2' rel2.hr rel2.σ rel2.none, hm2, hq⟩
    | exit id =>
      obtain ⟨k1, k2⟩ := keeps_from hr.hr h1 h3.hr ga.g
      exact ⟨k1, pre, i, .exit id, s2.σ, s2.nx, c2, rfl, hok, .inr ⟨id, rfl, rfl⟩, rfl, h1.trans ga.g, l2', RelR.envs (m1 := m1) hr hlow (h1.trans ga.g) l2' rel2.hr rel2.σ rel2.none, hm2, hq⟩
    | _ => exact hq.elim
  · rintro D xs W hD rfl ⟨hok, c', rfl, h1, h2, h3⟩ hdd
    exact ⟨c', st, rfl, ⟨h1, [{ target := .collected D, args := #[] }], rfl, by simp, fun d hd => by rw [List.mem_singleton] at hd; exact ⟨D, hd, hD, hdd⟩⟩, fun id hid => h2 id (Nat.lt_of_lt_of_le hid hm), ⟨h3.size, h3.env, h3.hr, h3.σ, h3.fresh⟩, Nat.le_trans hm hnx, hdone fun i => hok i (List.mem_finRange i)⟩
  · rintro D cd pre W hD ⟨k, hk, rfl⟩ ⟨pre', i, e, σ, nx, c', hp, hok, h0, rfl, h1, h2, h3, h4, h5⟩ hdd
    rw [List.take_succ_eq_append_getElem (by simpa using hk)] at hp
    obtain ⟨hp1, hp2⟩ := List.append_inj' hp rfl
    have hi : i = ⟨k, hk⟩ := by simpa using hp2.symm
    subst hi
    have key : ∃ c'' st', c''.w = c'.w ∧ GoA c a c'' { a with defers := { target := .collected D, args := #[] } :: a.defers } ∧ (∀ id, id < m → c''.φ id = c.φ id) ∧ RelR N st'.nx No c'' st' { a with defers := { target := .collected D, args := #[] } :: a.defers } ∧ m ≤ st'.nx ∧ Q e st' :=
      ⟨c', ⟨st.env, σ, nx⟩, rfl, ⟨h1, [{ target := .collected D, args := #[] }], rfl, by simp, fun d hd => by rw [List.mem_singleton] at hd; exact ⟨D, hd, hD, hdd⟩⟩, fun id hid => h2 id (Nat.lt_of_lt_of_le hid hm), ⟨h3.size, h3.env, h3.hr, h3.σ, h3.fresh⟩, Nat.le_trans hm h4,
        hstop ⟨k, hk⟩ e σ nx (fun j hj => hok j (by rw [← hp1, List.mem_take_iff_getElem]; exact ⟨j.1, by have h9 : j.1 < k := hj; simp; omega, by simp⟩)) h5⟩
    rcases h0 with ⟨rfl, rfl⟩ | ⟨id, rfl, rfl⟩
    · exact wpIn_ret key
    · exact wpIn_exit key
end Go.Proofs.YtdenddhdeloceaaGreatDoor
/- A function value whose captured variables are written no more is data. -/
namespace Go.Proofs.YtdenddhdeloceaaGreatDoor
open Go.RowKit
variable {P : Program} {N m : Nat}
theorem Weak.fnData {s : ASt} (t f : Nat) (caps caps' : List AV) (h : s.env t = .fn f caps) (hl : caps'.length = caps.length)
    (hc : ∀ (j : Nat) x', caps'[j]? = some x' → ∃ x, caps[j]? = some x ∧ ((x' = x ∧ Pu x) ∨ ∃ id y e cells off, x = .op id off ∧ s.σ id = some (.row y e cells) ∧ PuL cells ∧ x' = .fp y cells off)) :
    Weak N m s ⟨envOf [(t, .fn f caps')], heapOf [], s.nx⟩ := by
  intro c a hr hms
  generalize hd : (⟨c.w, c.B, c.φ, heapOf [], c.X, c.Y⟩ : Cx) = d
  have dw : d.w = c.w := by rw [← hd]
  have dB : d.B = c.B := by rw [← hd]
  have dX : d.X = c.X := by rw [← hd]
  have dY : d.Y = c.Y := by rw [← hd]
  have dσ : d.σ = heapOf [] := by rw [← hd]
  have dφ : d.φ = c.φ := by rw [← hd]
  have hT : ∀ b, ¬ d.T b := by rintro b ⟨k, o, e1, e2⟩; rw [dσ] at e1; cases e1
  have g : Grow c d := Still.grow ⟨dY, dX, dB, by rw [dw], by rw [dw], by rw [dw], by rw [dw]; exact Nat.le_refl _, fun b _ _ => by rw [dw], fun b hb => (hT b hb).elim, fun b cs e f hb => ⟨cs, f, by rw [dw]; exact hb, rfl⟩⟩
  have nm : Names c d := fun k x hk => by rw [dφ]; exact hk
  refine ⟨d, dw, g, fun _ _ => by rw [dφ], ⟨hr.size, fun t' => ?_, ⟨fun j y' e' cs' hs => (by rw [dσ] at hs; cases hs), fun i i' b e1 e2 e3 e4 => by rw [dσ] at e1; exact absurd rfl e1, by rw [dB, dw]; exact hr.hr.base, fun b hb => by rw [dX] at hb; rw [dw]; exact hr.hr.xlt b hb, hr.hr.gl.grow g⟩, dσ, fun k hk hne => by rw [dφ] at hne; exact hr.fresh k hk hne⟩, hms⟩
  simp only [envOf]
  split
  · rename_i e
    subst e
    have hv := hr.env t'
    rw [h] at hv
    obtain ⟨us, hu, hv⟩ := hv
    rw [VRt_iff] at hv
    refine ⟨us, hu, VRt_iff.2 ⟨by omega, fun j x' hj => ?_⟩⟩
    obtain ⟨x, k1, k2⟩ := hc j x' hj
    obtain ⟨u, k3, k4⟩ := hv.2 j x k1
    refine ⟨u, k3, ?_⟩
    rcases k2 with ⟨rfl, _⟩ | ⟨id, y, e, cells, off, rfl, q1, q2, rfl⟩
    · exact k4.mono g nm
    · obtain ⟨b, e1, rfl⟩ := k4
      rcases hr.hr.row id y e cells (by rw [hr.σ]; exact q1) with ⟨g1, _⟩ | ⟨b', cs, g1, g2, g3, g4, g5⟩
      · rw [e1] at g1; cases g1
      · rw [e1] at g1; cases g1
        refine ⟨b, 0, by rw [Nat.zero_add], by rw [dw, Array.getElem?_eq_some_iff] at *; exact g2.1, ⟨by rw [dB]; exact g3.1, hT b, by rw [dX]; exact g3.2⟩, VRm_iff.2 fun j z hj => ?_⟩
        obtain ⟨q, k1, k2, k3⟩ := g5 _ _ hj
        exact ⟨q, by rw [dw, Nat.zero_add]; simp [World.cell?, g2, k1], k2, k3.mono g nm⟩
  · trivial
mutual
theorem AlN.of {p : Nat → Prop} : ∀ {a : AV}, Al p a → AlN p a
  | .any, _ | .v _, _ | .ws _ _, _ | .wp _, _ | .wv _, _ => trivial
  | .fs fr cs n, h | .fp fr cs n, h | .us fr e cs n, h => AlNL.of (l := cs) h
  | .agg l, h | .tup l, h | .fn f l, h => AlNL.of (l := l) h
  | .ifc _ a, h => AlN.of (a := a) h
  | .os _ _ _ _, h | .op _ _, h => h
theorem AlNL.of {p : Nat → Prop} : ∀ {l : List AV}, AlL p l → AlNL p l
  | [], _ => trivial
  | a :: r, h => ⟨AlN.of (a := a) h.1, AlNL.of (l := r) h.2⟩
end
theorem AlN.env {p : Nat → Prop} {l : List (Nat × AV)} (h : AlL p (l.map (·.2))) (t : Nat) : AlN p (envOf l t) := by
  rcases envOf_mem (l := l) (t := t) with e | e
  · rw [e]; trivial
  · exact AlN.of (AlL_iff.1 h _ (List.mem_map.2 ⟨_, e, rfl⟩))
end Go.Proofs.YtdenddhdeloceaaGreatDoor
/- Functions of the program, compiled. -/
namespace Go.Proofs.YtdenddhdeloceaaGreatDoor
set_option maxRecDepth 100000
def ac_107 : AC :=
(.seq (.reg false [⟨some 2, .mv (.const (.slice none 0 0)), none, [], []⟩] [0])
(.seq (.seq (.reg false [⟨some 3, .mv (.tmp 0), none, [0], []⟩,
    ⟨some 4, .isnil false (.slice none 0 0) (.tmp 3), none, [3], []⟩] [0, 4])
(.cond (.tmp 4)
(.seq (.reg false [⟨some 2, .mv (.const (.slice none 0 0)), none, [], []⟩] [2])
.ret)
.skip))
(.seq (.reg false [⟨some 5, .bslice 22 1 0 [] [], none, [], []⟩,
    ⟨some 6, .mv (.tmp 0), none, [0], []⟩,
    ⟨some 7, .append 22 1 24 (.tmp 5) (.tmp 6), none, [5, 6], []⟩,
    ⟨some 2, .mv (.tmp 7), none, [7], []⟩] [2])
.ret)))
theorem ok_107 : FnOk Tryz.prog 107 8 ac_107 [.tmp 2] := ⟨Tryz.f107, Tryz.func107, by kernel_rfl, by kernel_rfl, by kernel_rfl, by kernel_rfl, by kernel_rfl⟩
def ac_108 : AC :=
(.seq (.reg false [⟨some 2, .mv (.const (.slice none 0 0)), none, [], []⟩] [0])
(.seq (.seq (.reg false [⟨some 3, .mv (.tmp 0), none, [0], []⟩,
    ⟨some 4, .isnil false (.slice none 0 0) (.tmp 3), none, [3], []⟩] [0, 4])
(.cond (.tmp 4)
(.seq (.reg false [⟨some 2, .mv (.const (.slice none 0 0)), none, [], []⟩] [2])
.ret)
.skip))
(.seq (.reg false [⟨some 5, .bslice 90 2 0 [] [], none, [], []⟩,
    ⟨some 6, .mv (.tmp 0), none, [0], []⟩,
    ⟨some 7, .append 90 2 32 (.tmp 5) (.tmp 6), none, [5, 6], []⟩,
    ⟨some 2, .mv (.tmp 7), none, [7], []⟩] [2])
.ret)))
theorem ok_108 : FnOk Tryz.prog 108 8 ac_108 [.tmp 2] := ⟨Tryz.f108, Tryz.func108, by kernel_rfl, by kernel_rfl, by kernel_rfl, by kernel_rfl, by kernel_rfl⟩
def ac_43 : AC :=
(.seq (.reg false [⟨some 1, .box 50 (.tmp 0), none, [0], []⟩,
    ⟨some 2, .new 50 [(.slice none 0 0), (.slice none 0 0)], none, [], []⟩,
    ⟨some 3, .mv (.const (.int .i64 (0))), none, [], []⟩] [1, 2])
(.seq (.reg false [⟨some 4, .load true 2 (.tmp 1), none, [1], []⟩,
    ⟨some 5, .call 52 [(.tmp 4), (.func 80)], none, [4], []⟩,
    ⟨some 6, .ext 0 (.tmp 5), none, [5], []⟩,
    ⟨some 7, .ext 1 (.tmp 5), none, [5], []⟩,
    ⟨none, .store 2 (.tmp 2) (.tmp 6), none, [2, 6], []⟩,
    ⟨some 3, .mv (.tmp 7), none, [7], []⟩] [2, 3])
.ret))
theorem ok_43 : FnOk Tryz.prog 43 8 ac_43 [.cell 2 true 2, .tmp 3] := ⟨Tryz.f43, Tryz.func43, by kernel_rfl, by kernel_rfl, by kernel_rfl, by kernel_rfl, by kernel_rfl⟩
def ac_53 : AC :=
(.seq (.reg false [⟨some 3, .mv (.const (.bool false)), none, [], []⟩] [0, 1])
(.seq (.reg false [⟨some 4, .mv (.tmp 0), none, [0], []⟩,
    ⟨some 5, .load false 1 (.tmp 1), none, [1], []⟩,
    ⟨some 6, .len false (.tmp 5), none, [5], []⟩,
    ⟨some 7, .bin .lss (.tmp 4) (.tmp 6), none, [4, 6], []⟩,
    ⟨some 8, .mv (.tmp 7), none, [7], []⟩,
    ⟨some 9, .load false 1 (.tmp 1), some (8, true), [1, 8], []⟩,
    ⟨some 10, .mv (.tmp 0), some (8, true), [0, 8], []⟩,
    ⟨some 11, .idx 1 (.tmp 9) (.tmp 10), some (8, true), [9, 10, 8], []⟩,
    ⟨some 12, .load false 1 (.tmp 11), some (8, true), [11, 8], []⟩,
    ⟨some 13, .pick (.tmp 8) (.tmp 12) (.const (.bool false)), none, [8, 12], []⟩,
    ⟨some 3, .mv (.tmp 13), none, [13], []⟩] [3])
.ret))
theorem ok_53 : FnOk Tryz.prog 53 14 ac_53 [.tmp 3] := ⟨Tryz.f53, Tryz.func53, by kernel_rfl, by kernel_rfl, by kernel_rfl, by kernel_rfl, by kernel_rfl⟩
def ac_80 : AC :=
(.seq (.reg false [⟨some 2, .mv (.const (.bool false)), none, [], []⟩] [])
(.seq (.reg false [⟨some 2, .mv (.const (.bool true)), none, [], []⟩] [2])
.ret))
theorem ok_80 : FnOk Tryz.prog 80 3 ac_80 [.tmp 2] := ⟨Tryz.f80, Tryz.func80, by kernel_rfl, by kernel_rfl, by kernel_rfl, by kernel_rfl, by kernel_rfl⟩
def ac_104 : AC :=
(.seq (.reg false [⟨some 1, .box 48 (.tmp 0), none, [0], []⟩,
    ⟨some 2, .mv (.const .nilFunc), none, [], []⟩] [1])
(.seq (.reg false [⟨some 3, .clo 123 [(.tmp 1)], none, [1], []⟩,
    ⟨some 2, .mv (.tmp 3), none, [3], []⟩] [2])
.ret))
theorem ok_104 : FnOk Tryz.prog 104 4 ac_104 [.tmp 2] := ⟨Tryz.f104, Tryz.func104, by kernel_rfl, by kernel_rfl, by kernel_rfl, by kernel_rfl, by kernel_rfl⟩
def ac_88 : AC :=
(.seq (.reg false [⟨some 2, .box 22 (.tmp 0), none, [0], []⟩,
    ⟨some 3, .box 3 (.tmp 1), none, [1], []⟩,
    ⟨some 4, .mv (.const .nilFunc), none, [], []⟩] [2, 3])
(.seq (.seq (.reg false [⟨some 5, .load false 1 (.tmp 3), none, [3], []⟩,
    ⟨some 6, .bin .lss (.tmp 5) (.const (.int .i64 (1))), none, [5], []⟩] [2, 3, 6])
(.cond (.tmp 6)
(.reg false [⟨some 7, .mkif 9 (.const (.string (ByteArray.mk #[99, 97, 110, 110, 111, 116, 32, 98, 101, 32, 108, 101, 115, 115, 32, 116, 104, 97, 110, 32, 49]))), none, [], []⟩,
    ⟨none, .die , none, [7], []⟩] [2, 3])
.skip))
(.seq (.reg false [⟨some 8, .clo 109 [(.tmp 2), (.tmp 3)], none, [2, 3], []⟩,
    ⟨some 4, .mv (.tmp 8), none, [8], []⟩] [4])
.ret)))
theorem ok_88 : FnOk Tryz.prog 88 9 ac_88 [.tmp 4] := ⟨Tryz.f88, Tryz.func88, by kernel_rfl, by kernel_rfl, by kernel_rfl, by kernel_rfl, by kernel_rfl⟩
def ac_19 : AC :=
(.seq (.reg false [⟨some 0, .mv (.const (.bool false)), none, [], []⟩] [])
(.seq (.reg false [⟨some 8, .call 26 [(.const (.int .i64 (16)))], none, [], []⟩,
    ⟨some 7, .mv (.tmp 8), none, [8], []⟩,
    ⟨some 9, .ext 0 (.tmp 7), none, [7], []⟩,
    ⟨some 10, .ext 1 (.tmp 7), none, [7], []⟩,
    ⟨some 1, .new 50 [(.slice none 0 0), (.slice none 0 0)], none, [], []⟩,
    ⟨none, .store 2 (.tmp 1) (.tmp 9), none, [1, 9], []⟩,
    ⟨some 2, .mv (.tmp 10), none, [10], []⟩] [1, 2])
(.seq (.reg false [⟨some 12, .load true 2 (.tmp 1), none, [1], []⟩,
    ⟨some 13, .build [(.int .i64 (0)), (.int .i64 (0)), (.int .i64 (0)), (.int .i64 (0)), (.slice none 0 0)] [(0, 1, (.const (.int .i64 (1))))], none, [], []⟩,
    ⟨some 14, .call 21 [(.tmp 12), (.tmp 13)], none, [12, 13], []⟩,
    ⟨some 11, .mv (.tmp 14), none, [14], []⟩,
    ⟨some 15, .ext 0 (.tmp 11), none, [11], []⟩,
    ⟨some 16, .ext 1 (.tmp 11), none, [11], []⟩,
    ⟨none, .store 2 (.tmp 1) (.tmp 15), none, [1, 15], []⟩,
    ⟨some 3, .mv (.tmp 16), none, [16], []⟩] [1, 2, 3])
(.seq (.reg false [⟨some 18, .load true 2 (.tmp 1), none, [1], []⟩,
    ⟨some 19, .build [(.int .i64 (0)), (.int .i64 (0)), (.int .i64 (0)), (.int .i64 (0)), (.slice none 0 0)] [(0, 1, (.const (.int .i64 (2)))), (1, 1, (.const (.int .i64 (7))))], none, [], []⟩,
    ⟨some 20, .call 21 [(.tmp 18), (.tmp 19)], none, [18, 19], []⟩,
    ⟨some 17, .mv (.tmp 20), none, [20], []⟩,
    ⟨some 21, .ext 0 (.tmp 17), none, [17], []⟩,
    ⟨some 22, .ext 1 (.tmp 17), none, [17], []⟩,
    ⟨none, .store 2 (.tmp 1) (.tmp 21), none, [1, 21], []⟩,
    ⟨some 4, .mv (.tmp 22), none, [22], []⟩] [1, 2, 3, 4])
(.seq (.reg false [⟨some 24, .load true 2 (.tmp 1), none, [1], []⟩,
    ⟨some 25, .call 23 [(.tmp 24)], none, [24], []⟩,
    ⟨some 23, .mv (.tmp 25), none, [25], []⟩,
    ⟨some 26, .ext 0 (.tmp 23), none, [23], []⟩,
    ⟨some 27, .ext 1 (.tmp 23), none, [23], []⟩,
    ⟨some 5, .new 25 [(.int .i64 (0)), (.int .i64 (0)), (.int .i64 (0)), (.int .i64 (0)), (.slice none 0 0)], none, [], []⟩,
    ⟨none, .store 5 (.tmp 5) (.tmp 26), none, [5, 26], []⟩,
    ⟨some 6, .mv (.tmp 27), none, [27], []⟩] [2, 3, 4, 5, 6])
(.seq (.reg false [⟨some 28, .mv (.tmp 2), none, [2], []⟩,
    ⟨some 29, .call 15 [(.tmp 28)], none, [28], []⟩,
    ⟨some 30, .mv (.tmp 3), none, [3], []⟩,
    ⟨some 31, .call 15 [(.tmp 30)], none, [30], []⟩,
    ⟨some 32, .bin .add (.tmp 29) (.tmp 31), none, [29, 31], []⟩,
    ⟨some 33, .mv (.tmp 4), none, [4], []⟩,
    ⟨some 34, .call 15 [(.tmp 33)], none, [33], []⟩,
    ⟨some 35, .bin .add (.tmp 32) (.tmp 34), none, [32, 34], []⟩,
    ⟨some 36, .mv (.tmp 6), none, [6], []⟩,
    ⟨some 37, .call 15 [(.tmp 36)], none, [36], []⟩,
    ⟨some 38, .bin .add (.tmp 35) (.tmp 37), none, [35, 37], []⟩,
    ⟨some 39, .bin .eql (.tmp 38) (.const (.int .i64 (0))), none, [38], []⟩,
    ⟨some 40, .mv (.tmp 39), none, [39], []⟩,
    ⟨some 41, .foff 0 (.tmp 5), some (40, true), [5, 40], []⟩,
    ⟨some 42, .load false 1 (.tmp 41), some (40, true), [41, 40], []⟩,
    ⟨some 43, .bin .eql (.tmp 42) (.const (.int .i64 (2))), some (40, true), [42, 40], []⟩,
    ⟨some 44, .pick (.tmp 40) (.tmp 43) (.const (.bool false)), none, [40, 43], []⟩,
    ⟨some 45, .mv (.tmp 44), none, [44], []⟩,
    ⟨some 46, .foff 1 (.tmp 5), some (45, true), [5, 45], []⟩,
    ⟨some 47, .load false 1 (.tmp 46), some (45, true), [46, 45], []⟩,
    ⟨some 48, .bin .eql (.tmp 47) (.const (.int .i64 (7))), some (45, true), [47, 45], []⟩,
    ⟨some 49, .pick (.tmp 45) (.tmp 48) (.const (.bool false)), none, [45, 48], []⟩,
    ⟨some 0, .mv (.tmp 49), none, [49], []⟩] [0])
.ret))))))
theorem ok_19 : FnOk Tryz.prog 19 50 ac_19 [.tmp 0] := ⟨Tryz.f19, Tryz.func19, by kernel_rfl, by kernel_rfl, by kernel_rfl, by kernel_rfl, by kernel_rfl⟩
end Go.Proofs.YtdenddhdeloceaaGreatDoor
/- Functions of the program, compiled. -/
namespace Go.Proofs.YtdenddhdeloceaaGreatDoor
set_option maxRecDepth 100000
def ac_41 : AC :=
(.seq (.reg false [⟨some 2, .mv (.const (.slice none 0 0)), none, [], []⟩] [0])
(.seq (.reg false [⟨some 3, .mv (.const (.slice none 0 0)), none, [], []⟩] [0, 3])
(.seq (.seq (.reg false [⟨some 4, .mv (.const (.int .i64 (0))), none, [], []⟩] [0, 3, 4])
(.block 0 (.loop (.seq (.seq (.reg false [⟨some 5, .mv (.tmp 4), none, [4], []⟩,
    ⟨some 6, .mv (.tmp 0), none, [0], []⟩,
    ⟨some 7, .len false (.tmp 6), none, [6], []⟩,
    ⟨some 8, .bin .lss (.tmp 5) (.tmp 7), none, [5, 7], []⟩] [0, 3, 4, 8])
(.cond (.tmp 8)
.skip
(.exit 0)))
(.seq (.block 1 (.reg false [⟨some 11, .mv (.tmp 3), none, [3], []⟩,
    ⟨some 12, .mv (.tmp 0), none, [0], []⟩,
    ⟨some 13, .mv (.tmp 4), none, [4], []⟩,
    ⟨some 14, .idx 1 (.tmp 12) (.tmp 13), none, [12, 13], []⟩,
    ⟨some 15, .load false 1 (.tmp 14), none, [14], []⟩,
    ⟨some 16, .call 9 [(.tmp 15)], none, [15], []⟩,
    ⟨some 17, .bslice 22 1 1 [(.slice none 0 0)] [(0, 1, (.tmp 16))], none, [16], []⟩,
    ⟨some 18, .append 22 1 24 (.tmp 11) (.tmp 17), none, [11, 17], []⟩,
    ⟨some 3, .mv (.tmp 18), none, [18], []⟩] [0, 3, 4]))
(.reg false [⟨some 9, .mv (.tmp 4), none, [4], []⟩,
    ⟨some 10, .bin .add (.tmp 9) (.const (.int .i64 (1))), none, [9], []⟩,
    ⟨some 4, .mv (.tmp 10), none, [10], []⟩] [0, 3, 4]))))))
(.seq (.reg false [⟨some 19, .mv (.tmp 3), none, [3], []⟩,
    ⟨some 2, .mv (.tmp 19), none, [19], []⟩] [2])
.ret))))
theorem ok_41 : FnOk Tryz.prog 41 20 ac_41 [.tmp 2] := ⟨Tryz.f41, Tryz.func41, by kernel_rfl, by kernel_rfl, by kernel_rfl, by kernel_rfl, by kernel_rfl⟩
def ac_48 : AC :=
(.seq (.reg false [⟨some 4, .mv (.const (.bool false)), none, [], []⟩] [0, 1])
(.seq (.seq (.reg false [⟨some 6, .mv (.tmp 0), none, [0], []⟩,
    ⟨some 7, .len false (.tmp 6), none, [6], []⟩,
    ⟨some 8, .mv (.tmp 1), none, [1], []⟩,
    ⟨some 9, .len false (.tmp 8), none, [8], []⟩,
    ⟨some 10, .bin .neq (.tmp 7) (.tmp 9), none, [7, 9], []⟩] [0, 1, 10])
(.cond (.tmp 10)
(.seq (.reg false [⟨some 4, .mv (.const (.bool false)), none, [], []⟩] [4])
.ret)
.skip))
(.seq (.seq (.reg false [⟨some 5, .mv (.const (.int .i64 (0))), none, [], []⟩] [0, 1, 5])
(.block 0 (.loop (.seq (.seq (.reg false [⟨some 11, .mv (.tmp 5), none, [5], []⟩,
    ⟨some 12, .mv (.tmp 0), none, [0], []⟩,
    ⟨some 13, .len false (.tmp 12), none, [12], []⟩,
    ⟨some 14, .bin .lss (.tmp 11) (.tmp 13), none, [11, 13], []⟩] [0, 1, 5, 14])
(.cond (.tmp 14)
.skip
(.exit 0)))
(.seq (.block 1 (.seq (.reg true [⟨some 17, .mv (.tmp 0), none, [0], []⟩,
    ⟨some 18, .mv (.tmp 5), none, [5], []⟩,
    ⟨some 19, .idx 1 (.tmp 17) (.tmp 18), none, [17, 18], [0, 1]⟩,
    ⟨some 20, .load false 1 (.tmp 19), none, [19], [2, 0, 1]⟩,
    ⟨some 21, .mv (.tmp 1), none, [1], []⟩,
    ⟨some 22, .mv (.tmp 5), none, [5], []⟩,
    ⟨some 23, .idx 1 (.tmp 21) (.tmp 22), none, [21, 22], [4, 5]⟩,
    ⟨some 24, .load false 1 (.tmp 23), none, [23], [6, 4, 5]⟩,
    ⟨some 25, .call 14 [(.tmp 20), (.tmp 24)], none, [20, 24], [3, 7, 2, 0, 1, 6, 4, 5]⟩,
    ⟨some 26, .un .not (.tmp 25), none, [25], [8, 3, 7, 2, 0, 1, 6, 4, 5]⟩] [0, 1, 5, 26])
(.cond (.tmp 26)
(.seq (.reg false [⟨some 4, .mv (.const (.bool false)), none, [], []⟩] [4])
.ret)
.skip)))
(.reg false [⟨some 15, .mv (.tmp 5), none, [5], []⟩,
    ⟨some 16, .bin .add (.tmp 15) (.const (.int .i64 (1))), none, [15], []⟩,
    ⟨some 5, .mv (.tmp 16), none, [16], []⟩] [0, 1, 5]))))))
(.seq (.reg false [⟨some 4, .mv (.const (.bool true)), none, [], []⟩] [4])
.ret))))
theorem ok_48 : FnOk Tryz.prog 48 27 ac_48 [.tmp 4] := ⟨Tryz.f48, Tryz.func48, by kernel_rfl, by kernel_rfl, by kernel_rfl, by kernel_rfl, by kernel_rfl⟩
def ac_20 : AC :=
(.seq (.reg false [⟨some 1, .box 47 (.tmp 0), none, [0], []⟩,
    ⟨some 2, .new 50 [(.slice none 0 0), (.slice none 0 0)], none, [], []⟩] [1, 2])
(.seq (.reg false [⟨some 5, .foff 0 (.tmp 1), none, [1], []⟩,
    ⟨some 6, .load false 1 (.tmp 5), none, [5], []⟩,
    ⟨some 7, .call 41 [(.tmp 6)], none, [6], []⟩,
    ⟨some 8, .build [(.slice none 0 0), (.slice none 0 0)] [(0, 1, (.tmp 7))], none, [7], []⟩,
    ⟨some 3, .new 50 [(.slice none 0 0), (.slice none 0 0)], none, [], []⟩,
    ⟨none, .store 2 (.tmp 3) (.tmp 8), none, [3, 8], []⟩] [1, 2, 3])
(.seq (.seq (.reg false [⟨some 4, .mv (.const (.int .i64 (0))), none, [], []⟩] [1, 2, 3, 4])
(.block 0 (.loop (.seq (.seq (.reg false [⟨some 9, .mv (.tmp 4), none, [4], []⟩,
    ⟨some 10, .foff 1 (.tmp 1), none, [1], []⟩,
    ⟨some 11, .load false 1 (.tmp 10), none, [10], []⟩,
    ⟨some 12, .len false (.tmp 11), none, [11], []⟩,
    ⟨some 13, .bin .lss (.tmp 9) (.tmp 12), none, [9, 12], []⟩] [1, 2, 3, 4, 13])
(.cond (.tmp 13)
.skip
(.exit 0)))
(.seq (.block 1 (.reg true [⟨some 16, .foff 1 (.tmp 3), none, [3], []⟩,
    ⟨some 17, .load false 1 (.tmp 16), none, [16], [0]⟩,
    ⟨some 18, .foff 1 (.tmp 1), none, [1], []⟩,
    ⟨some 19, .load false 1 (.tmp 18), none, [18], [2]⟩,
    ⟨some 20, .mv (.tmp 4), none, [4], []⟩,
    ⟨some 21, .idx 2 (.tmp 19) (.tmp 20), none, [19, 20], [3, 4, 2]⟩,
    ⟨some 22, .foff 0 (.tmp 21), none, [21], [5, 3, 4, 2]⟩,
    ⟨some 23, .load false 1 (.tmp 22), none, [22], [6, 5, 3, 4, 2]⟩,
    ⟨some 24, .foff 1 (.tmp 1), none, [1], []⟩,
    ⟨some 25, .load false 1 (.tmp 24), none, [24], [8]⟩,
    ⟨some 26, .mv (.tmp 4), none, [4], []⟩,
    ⟨some 27, .idx 2 (.tmp 25) (.tmp 26), none, [25, 26], [9, 10, 8]⟩,
    ⟨some 28, .foff 1 (.tmp 27), none, [27], [11, 9, 10, 8]⟩,
    ⟨some 29, .load false 1 (.tmp 28), none, [28], [12, 11, 9, 10, 8]⟩,
    ⟨some 30, .call 9 [(.tmp 29)], none, [29], [13, 12, 11, 9, 10, 8]⟩,
    ⟨some 31, .build [(.int .i64 (0)), (.slice none 0 0)] [(0, 1, (.tmp 23)), (1, 1, (.tmp 30))], none, [23, 30], [7, 14, 6, 5, 3, 4, 2, 13, 12, 11, 9, 10, 8]⟩,
    ⟨some 32, .bslice 90 2 1 [(.int .i64 (0)), (.slice none 0 0)] [(0, 2, (.tmp 31))], none, [31], [15, 7, 14, 6, 5, 3, 4, 2, 13, 12, 11, 9, 10, 8]⟩,
    ⟨some 33, .append 90 2 32 (.tmp 17) (.tmp 32), none, [17, 32], [1, 16, 14, 0, 15, 7, 6, 5, 3, 4, 2, 13, 12, 11, 9, 10, 8]⟩,
    ⟨some 34, .foff 1 (.tmp 3), none, [3], [0, 1, 2, 3, 4, 5, 6, 7, 8, 9, 10, 11, 12, 13, 14, 15, 16, 17]⟩,
    ⟨none, .store 1 (.tmp 34) (.tmp 33), none, [34, 33], [18, 17, 0, 1, 2, 3, 4, 5, 6, 7, 8, 9, 10, 11, 12, 13, 14, 15, 16]⟩] [1, 2, 3, 4]))
(.reg false [⟨some 14, .mv (.tmp 4), none, [4], []⟩,
    ⟨some 15, .bin .add (.tmp 14) (.const (.int .i64 (1))), none, [14], []⟩,
    ⟨some 4, .mv (.tmp 15), none, [15], []⟩] [1, 2, 3, 4]))))))
(.seq (.reg false [⟨some 35, .load true 2 (.tmp 3), none, [3], []⟩,
    ⟨none, .store 2 (.tmp 2) (.tmp 35), none, [2, 35], []⟩] [2])
.ret))))
theorem ok_20 : FnOk Tryz.prog 20 36 ac_20 [.cell 2 true 2] := ⟨Tryz.f20, Tryz.func20, by kernel_rfl, by kernel_rfl, by kernel_rfl, by kernel_rfl, by kernel_rfl⟩
def ac_25 : AC :=
(.seq (.reg false [⟨some 2, .box 50 (.tmp 0), none, [0], []⟩,
    ⟨some 3, .box 47 (.tmp 1), none, [1], []⟩,
    ⟨some 4, .mv (.const (.int .i64 (0))), none, [], []⟩] [2, 3])
(.seq (.seq (.reg false [⟨some 6, .foff 0 (.tmp 2), none, [2], []⟩,
    ⟨some 7, .load false 1 (.tmp 6), none, [6], []⟩,
    ⟨some 8, .foff 0 (.tmp 3), none, [3], []⟩,
    ⟨some 9, .load false 1 (.tmp 8), none, [8], []⟩,
    ⟨some 10, .call 48 [(.tmp 7), (.tmp 9)], none, [7, 9], []⟩,
    ⟨some 11, .un .not (.tmp 10), none, [10], []⟩,
    ⟨some 12, .mv (.tmp 11), none, [11], []⟩,
    ⟨some 13, .foff 1 (.tmp 2), some (12, false), [2, 12], []⟩,
    ⟨some 14, .load false 1 (.tmp 13), some (12, false), [13, 12], []⟩,
    ⟨some 15, .len false (.tmp 14), some (12, false), [14, 12], []⟩,
    ⟨some 16, .foff 1 (.tmp 3), some (12, false), [3, 12], []⟩,
    ⟨some 17, .load false 1 (.tmp 16), some (12, false), [16, 12], []⟩,
    ⟨some 18, .len false (.tmp 17), some (12, false), [17, 12], []⟩,
    ⟨some 19, .bin .neq (.tmp 15) (.tmp 18), some (12, false), [15, 18, 12], []⟩,
    ⟨some 20, .pick (.tmp 12) (.const (.bool true)) (.tmp 19), none, [12, 19], []⟩] [2, 3, 20])
(.cond (.tmp 20)
(.seq (.reg false [⟨some 4, .mv (.const (.int .i64 (1))), none, [], []⟩] [4])
.ret)
.skip))
(.seq (.seq (.reg false [⟨some 5, .mv (.const (.int .i64 (0))), none, [], []⟩] [2, 3, 5])
(.block 0 (.loop (.seq (.seq (.reg false [⟨some 21, .mv (.tmp 5), none, [5], []⟩,
    ⟨some 22, .foff 1 (.tmp 2), none, [2], []⟩,
    ⟨some 23, .load false 1 (.tmp 22), none, [22], []⟩,
    ⟨some 24, .len false (.tmp 23), none, [23], []⟩,
    ⟨some 25, .bin .lss (.tmp 21) (.tmp 24), none, [21, 24], []⟩] [2, 3, 5, 25])
(.cond (.tmp 25)
.skip
(.exit 0)))
(.seq (.block 1 (.seq (.reg true [⟨some 28, .foff 1 (.tmp 2), none, [2], []⟩,
    ⟨some 29, .load false 1 (.tmp 28), none, [28], [0]⟩,
    ⟨some 30, .mv (.tmp 5), none, [5], []⟩,
    ⟨some 31, .idx 2 (.tmp 29) (.tmp 30), none, [29, 30], [1, 2, 0]⟩,
    ⟨some 32, .foff 0 (.tmp 31), none, [31], [3, 1, 2, 0]⟩,
    ⟨some 33, .load false 1 (.tmp 32), none, [32], [4, 3, 1, 2, 0]⟩,
    ⟨some 34, .foff 1 (.tmp 3), none, [3], []⟩,
    ⟨some 35, .load false 1 (.tmp 34), none, [34], [6]⟩,
    ⟨some 36, .mv (.tmp 5), none, [5], []⟩,
    ⟨some 37, .idx 2 (.tmp 35) (.tmp 36), none, [35, 36], [7, 8, 6]⟩,
    ⟨some 38, .foff 0 (.tmp 37), none, [37], [9, 7, 8, 6]⟩,
    ⟨some 39, .load false 1 (.tmp 38), none, [38], [10, 9, 7, 8, 6]⟩,
    ⟨some 40, .bin .neq (.tmp 33) (.tmp 39), none, [33, 39], [5, 11, 4, 3, 1, 2, 0, 10, 9, 7, 8, 6]⟩,
    ⟨some 41, .mv (.tmp 40), none, [40], [12, 5, 11, 4, 3, 1, 2, 0, 10, 9, 7, 8, 6]⟩,
    ⟨some 42, .foff 1 (.tmp 2), some (41, false), [2, 41], [13, 12, 5, 11, 4, 3, 1, 2, 0, 10, 9, 7, 8, 6]⟩,
    ⟨some 43, .load false 1 (.tmp 42), some (41, false), [42, 41], [14, 13, 12, 5, 11, 4, 3, 1, 2, 0, 10, 9, 7, 8, 6]⟩,
    ⟨some 44, .mv (.tmp 5), some (41, false), [5, 41], [13, 12, 5, 11, 4, 3, 1, 2, 0, 10, 9, 7, 8, 6]⟩,
    ⟨some 45, .idx 2 (.tmp 43) (.tmp 44), some (41, false), [43, 44, 41], [15, 16, 13, 14, 12, 5, 11, 4, 3, 1, 2, 0, 10, 9, 7, 8, 6]⟩,
    ⟨some 46, .foff 1 (.tmp 45), some (41, false), [45, 41], [17, 13, 15, 16, 14, 12, 5, 11, 4, 3, 1, 2, 0, 10, 9, 7, 8, 6]⟩,
    ⟨some 47, .load false 1 (.tmp 46), some (41, false), [46, 41], [18, 13, 17, 15, 16, 14, 12, 5, 11, 4, 3, 1, 2, 0, 10, 9, 7, 8, 6]⟩,
    ⟨some 48, .foff 1 (.tmp 3), some (41, false), [3, 41], [13, 12, 5, 11, 4, 3, 1, 2, 0, 10, 9, 7, 8, 6]⟩,
    ⟨some 49, .load false 1 (.tmp 48), some (41, false), [48, 41], [20, 13, 12, 5, 11, 4, 3, 1, 2, 0, 10, 9, 7, 8, 6]⟩,
    ⟨some 50, .mv (.tmp 5), some (41, false), [5, 41], [13, 12, 5, 11, 4, 3, 1, 2, 0, 10, 9, 7, 8, 6]⟩,
    ⟨some 51, .idx 2 (.tmp 49) (.tmp 50), some (41, false), [49, 50, 41], [21, 22, 13, 20, 12, 5, 11, 4, 3, 1, 2, 0, 10, 9, 7, 8, 6]⟩,
    ⟨some 52, .foff 1 (.tmp 51), some (41, false), [51, 41], [23, 13, 21, 22, 20, 12, 5, 11, 4, 3, 1, 2, 0, 10, 9, 7, 8, 6]⟩,
    ⟨some 53, .load false 1 (.tmp 52), some (41, false), [52, 41], [24, 13, 23, 21, 22, 20, 12, 5, 11, 4, 3, 1, 2, 0, 10, 9, 7, 8, 6]⟩,
    ⟨some 54, .call 14 [(.tmp 47), (.tmp 53)], some (41, false), [47, 53, 41], [19, 25, 13, 18, 17, 15, 16, 14, 12, 5, 11, 4, 3, 1, 2, 0, 10, 9, 7, 8, 6, 24, 23, 21, 22, 20]⟩,
    ⟨some 55, .un .not (.tmp 54), some (41, false), [54, 41], [26, 13, 19, 25, 18, 17, 15, 16, 14, 12, 5, 11, 4, 3, 1, 2, 0, 10, 9, 7, 8, 6, 24, 23, 21, 22, 20]⟩,
    ⟨some 56, .pick (.tmp 41) (.const (.bool true)) (.tmp 55), none, [41, 55], [13, 27, 12, 5, 11, 4, 3, 1, 2, 0, 10, 9, 7, 8, 6, 26, 19, 25, 18, 17, 15, 16, 14, 24, 23, 21, 22, 20]⟩] [2, 3, 5, 56])
(.cond (.tmp 56)
(.seq (.reg false [⟨some 4, .mv (.const (.int .i64 (1))), none, [], []⟩] [4])
.ret)
.skip)))
(.reg false [⟨some 26, .mv (.tmp 5), none, [5], []⟩,
    ⟨some 27, .bin .add (.tmp 26) (.const (.int .i64 (1))), none, [26], []⟩,
    ⟨some 5, .mv (.tmp 27), none, [27], []⟩] [2, 3, 5]))))))
(.seq (.reg false [⟨some 4, .mv (.const (.int .i64 (0))), none, [], []⟩] [4])
.ret))))
theorem ok_25 : FnOk Tryz.prog 25 57 ac_25 [.tmp 4] := ⟨Tryz.f25, Tryz.func25, by kernel_rfl, by kernel_rfl, by kernel_rfl, by kernel_rfl, by kernel_rfl⟩
def ac_30 : AC :=
(.seq (.reg false [⟨some 2, .new 47 [(.slice none 0 0), (.slice none 0 0)], none, [], []⟩,
    ⟨some 3, .mv (.const (.int .i64 (0))), none, [], []⟩] [0, 2])
(.seq (.seq (.reg false [⟨some 6, .mv (.tmp 0), none, [0], []⟩,
    ⟨some 7, .bin .lss (.tmp 6) (.const (.int .i64 (1))), none, [6], []⟩,
    ⟨some 8, .mv (.tmp 7), none, [7], []⟩,
    ⟨some 9, .mv (.tmp 0), some (8, false), [0, 8], []⟩,
    ⟨some 10, .bin .gtr (.tmp 9) (.const (.int .i64 (2048))), some (8, false), [9, 8], []⟩,
    ⟨some 11, .pick (.tmp 8) (.const (.bool true)) (.tmp 10), none, [8, 10], []⟩] [0, 2, 11])
(.cond (.tmp 11)
(.seq (.reg false [⟨some 12, .build [(.slice none 0 0), (.slice none 0 0)] [], none, [], []⟩,
    ⟨none, .store 2 (.tmp 2) (.tmp 12), none, [2, 12], []⟩,
    ⟨some 3, .mv (.const (.int .i64 (4))), none, [], []⟩] [2, 3])
.ret)
.skip))
(.seq (.reg false [⟨some 4, .new 47 [(.slice none 0 0), (.slice none 0 0)], none, [], []⟩] [0, 2, 4])
(.seq (.seq (.reg false [⟨some 5, .mv (.const (.int .i64 (0))), none, [], []⟩] [0, 2, 4, 5])
(.block 0 (.loop (.seq (.seq (.reg false [⟨some 13, .mv (.tmp 5), none, [5], []⟩,
    ⟨some 14, .mv (.tmp 0), none, [0], []⟩,
    ⟨some 15, .bin .lss (.tmp 13) (.tmp 14), none, [13, 14], []⟩] [0, 2, 4, 5, 15])
(.cond (.tmp 15)
.skip
(.exit 0)))
(.seq (.block 1 (.reg true [⟨some 18, .foff 0 (.tmp 4), none, [4], []⟩,
    ⟨some 19, .load false 1 (.tmp 18), none, [18], [0]⟩,
    ⟨some 20, .mksl 5 1 1 [(.int .u8 (0))] (.const (.int .i64 (64))) (.const (.int .i64 (64))), none, [], []⟩,
    ⟨some 21, .bslice 22 1 1 [(.slice none 0 0)] [(0, 1, (.tmp 20))], none, [20], [2]⟩,
    ⟨some 22, .append 22 1 24 (.tmp 19) (.tmp 21), none, [19, 21], [1, 3, 0, 2]⟩,
    ⟨some 23, .foff 0 (.tmp 4), none, [4], [0, 1, 2, 3, 4]⟩,
    ⟨none, .store 1 (.tmp 23) (.tmp 22), none, [23, 22], [5, 4, 0, 1, 2, 3]⟩] [0, 2, 4, 5]))
(.reg false [⟨some 16, .mv (.tmp 5), none, [5], []⟩,
    ⟨some 17, .bin .add (.tmp 16) (.const (.int .i64 (1))), none, [16], []⟩,
    ⟨some 5, .mv (.tmp 17), none, [17], []⟩] [0, 2, 4, 5]))))))
(.seq (.reg false [⟨some 24, .load true 2 (.tmp 4), none, [4], []⟩,
    ⟨none, .store 2 (.tmp 2) (.tmp 24), none, [2, 24], []⟩,
    ⟨some 3, .mv (.const (.int .i64 (0))), none, [], []⟩] [2, 3])
.ret)))))
theorem ok_30 : FnOk Tryz.prog 30 25 ac_30 [.cell 2 true 2, .tmp 3] := ⟨Tryz.f30, Tryz.func30, by kernel_rfl, by kernel_rfl, by kernel_rfl, by kernel_rfl, by kernel_rfl⟩
def ac_54 : AC :=
(.seq (.reg false [⟨some 1, .box 47 (.tmp 0), none, [0], []⟩,
    ⟨some 2, .mv (.const (.int .i64 (0))), none, [], []⟩] [1])
(.seq (.seq (.reg false [⟨some 6, .foff 0 (.tmp 1), none, [1], []⟩,
    ⟨some 7, .load false 1 (.tmp 6), none, [6], []⟩,
    ⟨some 8, .len false (.tmp 7), none, [7], []⟩,
    ⟨some 9, .bin .lss (.tmp 8) (.const (.int .i64 (1))), none, [8], []⟩,
    ⟨some 10, .mv (.tmp 9), none, [9], []⟩,
    ⟨some 11, .foff 0 (.tmp 1), some (10, false), [1, 10], []⟩,
    ⟨some 12, .load false 1 (.tmp 11), some (10, false), [11, 10], []⟩,
    ⟨some 13, .len false (.tmp 12), some (10, false), [12, 10], []⟩,
    ⟨some 14, .bin .gtr (.tmp 13) (.const (.int .i64 (2048))), some (10, false), [13, 10], []⟩,
    ⟨some 15, .pick (.tmp 10) (.const (.bool true)) (.tmp 14), none, [10, 14], []⟩,
    ⟨some 16, .mv (.tmp 15), none, [15], []⟩,
    ⟨some 17, .foff 1 (.tmp 1), some (16, false), [1, 16], []⟩,
    ⟨some 18, .load false 1 (.tmp 17), some (16, false), [17, 16], []⟩,
    ⟨some 19, .len false (.tmp 18), some (16, false), [18, 16], []⟩,
    ⟨some 20, .bin .gtr (.tmp 19) (.const (.int .i64 (4096))), some (16, false), [19, 16], []⟩,
    ⟨some 21, .pick (.tmp 16) (.const (.bool true)) (.tmp 20), none, [16, 20], []⟩] [1, 21])
(.cond (.tmp 21)
(.seq (.reg false [⟨some 2, .mv (.const (.int .i64 (9))), none, [], []⟩] [2])
.ret)
.skip))
(.seq (.seq (.reg false [⟨some 3, .mv (.const (.int .i64 (0))), none, [], []⟩] [1, 3])
(.block 0 (.loop (.seq (.seq (.reg false [⟨some 22, .mv (.tmp 3), none, [3], []⟩,
    ⟨some 23, .foff 0 (.tmp 1), none, [1], []⟩,
    ⟨some 24, .load false 1 (.tmp 23), none, [23], []⟩,
    ⟨some 25, .len false (.tmp 24), none, [24], []⟩,
    ⟨some 26, .bin .lss (.tmp 22) (.tmp 25), none, [22, 25], []⟩] [1, 3, 26])
(.cond (.tmp 26)
.skip
(.exit 0)))
(.seq (.block 1 (.seq (.reg false [⟨some 29, .foff 0 (.tmp 1), none, [1], []⟩,
    ⟨some 30, .load false 1 (.tmp 29), none, [29], []⟩,
    ⟨some 31, .mv (.tmp 3), none, [3], []⟩,
    ⟨some 32, .idx 1 (.tmp 30) (.tmp 31), none, [30, 31], []⟩,
    ⟨some 33, .load false 1 (.tmp 32), none, [32], []⟩,
    ⟨some 34, .len false (.tmp 33), none, [33], []⟩,
    ⟨some 35, .bin .neq (.tmp 34) (.const (.int .i64 (64))), none, [34], []⟩] [1, 3, 35])
(.cond (.tmp 35)
(.seq (.reg false [⟨some 2, .mv (.const (.int .i64 (9))), none, [], []⟩] [2])
.ret)
.skip)))
(.reg false [⟨some 27, .mv (.tmp 3), none, [3], []⟩,
    ⟨some 28, .bin .add (.tmp 27) (.const (.int .i64 (1))), none, [27], []⟩,
    ⟨some 3, .mv (.tmp 28), none, [28], []⟩] [1, 3]))))))
(.seq (.seq (.reg false [⟨some 4, .mv (.const (.int .i64 (0))), none, [], []⟩] [1, 4])
(.block 2 (.loop (.seq (.seq (.reg false [⟨some 36, .mv (.tmp 4), none, [4], []⟩,
    ⟨some 37, .foff 1 (.tmp 1), none, [1], []⟩,
    ⟨some 38, .load false 1 (.tmp 37), none, [37], []⟩,
    ⟨some 39, .len false (.tmp 38), none, [38], []⟩,
    ⟨some 40, .bin .lss (.tmp 36) (.tmp 39), none, [36, 39], []⟩] [1, 4, 40])
(.cond (.tmp 40)
.skip
(.exit 2)))
(.seq (.block 3 (.seq (.reg false [⟨some 43, .foff 1 (.tmp 1), none, [1], []⟩,
    ⟨some 44, .load false 1 (.tmp 43), none, [43], []⟩,
    ⟨some 45, .mv (.tmp 4), none, [4], []⟩,
    ⟨some 46, .idx 2 (.tmp 44) (.tmp 45), none, [44, 45], []⟩,
    ⟨some 47, .load true 2 (.tmp 46), none, [46], []⟩,
    ⟨some 5, .new 89 [(.int .i64 (0)), (.slice none 0 0)], none, [], []⟩,
    ⟨none, .store 2 (.tmp 5) (.tmp 47), none, [5, 47], []⟩] [1, 4, 5])
(.seq (.reg false [⟨some 48, .foff 0 (.tmp 5), none, [5], []⟩,
    ⟨some 49, .load false 1 (.tmp 48), none, [48], []⟩,
    ⟨some 50, .bin .lss (.tmp 49) (.const (.int .i64 (0))), none, [49], []⟩,
    ⟨some 51, .mv (.tmp 50), none, [50], []⟩,
    ⟨some 52, .foff 0 (.tmp 5), some (51, false), [5, 51], []⟩,
    ⟨some 53, .load false 1 (.tmp 52), some (51, false), [52, 51], []⟩,
    ⟨some 54, .foff 0 (.tmp 1), some (51, false), [1, 51], []⟩,
    ⟨some 55, .load false 1 (.tmp 54), some (51, false), [54, 51], []⟩,
    ⟨some 56, .len false (.tmp 55), some (51, false), [55, 51], []⟩,
    ⟨some 57, .bin .geq (.tmp 53) (.tmp 56), some (51, false), [53, 56, 51], []⟩,
    ⟨some 58, .pick (.tmp 51) (.const (.bool true)) (.tmp 57), none, [51, 57], []⟩,
    ⟨some 59, .mv (.tmp 58), none, [58], []⟩,
    ⟨some 60, .foff 1 (.tmp 5), some (59, false), [5, 59], []⟩,
    ⟨some 61, .load false 1 (.tmp 60), some (59, false), [60, 59], []⟩,
    ⟨some 62, .len false (.tmp 61), some (59, false), [61, 59], []⟩,
    ⟨some 63, .bin .neq (.tmp 62) (.const (.int .i64 (64))), some (59, false), [62, 59], []⟩,
    ⟨some 64, .pick (.tmp 59) (.const (.bool true)) (.tmp 63), none, [59, 63], []⟩] [1, 4, 64])
(.cond (.tmp 64)
(.seq (.reg false [⟨some 2, .mv (.const (.int .i64 (9))), none, [], []⟩] [2])
.ret)
.skip))))
(.reg false [⟨some 41, .mv (.tmp 4), none, [4], []⟩,
    ⟨some 42, .bin .add (.tmp 41) (.const (.int .i64 (1))), none, [41], []⟩,
    ⟨some 4, .mv (.tmp 42), none, [42], []⟩] [1, 4]))))))
(.seq (.reg false [⟨some 2, .mv (.const (.int .i64 (0))), none, [], []⟩] [2])
.ret)))))
theorem ok_54 : FnOk Tryz.prog 54 65 ac_54 [.tmp 2] := ⟨Tryz.f54, Tryz.func54, by kernel_rfl, by kernel_rfl, by kernel_rfl, by kernel_rfl, by kernel_rfl⟩
def ac_55 : AC :=
(.seq (.reg false [⟨some 1, .box 47 (.tmp 0), none, [0], []⟩,
    ⟨some 2, .new 47 [(.slice none 0 0), (.slice none 0 0)], none, [], []⟩] [1, 2])
(.seq (.reg false [⟨some 3, .new 47 [(.slice none 0 0), (.slice none 0 0)], none, [], []⟩] [1, 2, 3])
(.seq (.seq (.reg false [⟨some 4, .mv (.const (.int .i64 (0))), none, [], []⟩] [1, 2, 3, 4])
(.block 0 (.loop (.seq (.seq (.reg false [⟨some 6, .mv (.tmp 4), none, [4], []⟩,
    ⟨some 7, .foff 0 (.tmp 1), none, [1], []⟩,
    ⟨some 8, .load false 1 (.tmp 7), none, [7], []⟩,
    ⟨some 9, .len false (.tmp 8), none, [8], []⟩,
    ⟨some 10, .bin .lss (.tmp 6) (.tmp 9), none, [6, 9], []⟩] [1, 2, 3, 4, 10])
(.cond (.tmp 10)
.skip
(.exit 0)))
(.seq (.block 1 (.reg true [⟨some 13, .foff 0 (.tmp 3), none, [3], []⟩,
    ⟨some 14, .load false 1 (.tmp 13), none, [13], [0]⟩,
    ⟨some 15, .foff 0 (.tmp 1), none, [1], []⟩,
    ⟨some 16, .load false 1 (.tmp 15), none, [15], [2]⟩,
    ⟨some 17, .mv (.tmp 4), none, [4], []⟩,
    ⟨some 18, .idx 1 (.tmp 16) (.tmp 17), none, [16, 17], [3, 4, 2]⟩,
    ⟨some 19, .load false 1 (.tmp 18), none, [18], [5, 3, 4, 2]⟩,
    ⟨some 20, .call 57 [(.tmp 19)], none, [19], [6, 5, 3, 4, 2]⟩,
    ⟨some 21, .bslice 22 1 1 [(.slice none 0 0)] [(0, 1, (.tmp 20))], none, [20], [7, 6, 5, 3, 4, 2]⟩,
    ⟨some 22, .append 22 1 24 (.tmp 14) (.tmp 21), none, [14, 21], [1, 8, 7, 0, 6, 5, 3, 4, 2]⟩,
    ⟨some 23, .foff 0 (.tmp 3), none, [3], [0, 1, 2, 3, 4, 5, 6, 7, 8, 9]⟩,
    ⟨none, .store 1 (.tmp 23) (.tmp 22), none, [23, 22], [10, 9, 0, 1, 2, 3, 4, 5, 6, 7, 8]⟩] [1, 2, 3, 4]))
(.reg false [⟨some 11, .mv (.tmp 4), none, [4], []⟩,
    ⟨some 12, .bin .add (.tmp 11) (.const (.int .i64 (1))), none, [11], []⟩,
    ⟨some 4, .mv (.tmp 12), none, [12], []⟩] [1, 2, 3, 4]))))))
(.seq (.seq (.reg false [⟨some 5, .mv (.const (.int .i64 (0))), none, [], []⟩] [1, 2, 3, 5])
(.block 2 (.loop (.seq (.seq (.reg false [⟨some 24, .mv (.tmp 5), none, [5], []⟩,
    ⟨some 25, .foff 1 (.tmp 1), none, [1], []⟩,
    ⟨some 26, .load false 1 (.tmp 25), none, [25], []⟩,
    ⟨some 27, .len false (.tmp 26), none, [26], []⟩,
    ⟨some 28, .bin .lss (.tmp 24) (.tmp 27), none, [24, 27], []⟩] [1, 2, 3, 5, 28])
(.cond (.tmp 28)
.skip
(.exit 2)))
(.seq (.block 3 (.reg true [⟨some 31, .foff 1 (.tmp 3), none, [3], []⟩,
    ⟨some 32, .load false 1 (.tmp 31), none, [31], [0]⟩,
    ⟨some 33, .foff 1 (.tmp 1), none, [1], []⟩,
    ⟨some 34, .load false 1 (.tmp 33), none, [33], [2]⟩,
    ⟨some 35, .mv (.tmp 5), none, [5], []⟩,
    ⟨some 36, .idx 2 (.tmp 34) (.tmp 35), none, [34, 35], [3, 4, 2]⟩,
    ⟨some 37, .foff 0 (.tmp 36), none, [36], [5, 3, 4, 2]⟩,
    ⟨some 38, .load false 1 (.tmp 37), none, [37], [6, 5, 3, 4, 2]⟩,
    ⟨some 39, .foff 1 (.tmp 1), none, [1], []⟩,
    ⟨some 40, .load false 1 (.tmp 39), none, [39], [8]⟩,
    ⟨some 41, .mv (.tmp 5), none, [5], []⟩,
    ⟨some 42, .idx 2 (.tmp 40) (.tmp 41), none, [40, 41], [9, 10, 8]⟩,
    ⟨some 43, .foff 1 (.tmp 42), none, [42], [11, 9, 10, 8]⟩,
    ⟨some 44, .load false 1 (.tmp 43), none, [43], [12, 11, 9, 10, 8]⟩,
    ⟨some 45, .call 57 [(.tmp 44)], none, [44], [13, 12, 11, 9, 10, 8]⟩,
    ⟨some 46, .build [(.int .i64 (0)), (.slice none 0 0)] [(0, 1, (.tmp 38)), (1, 1, (.tmp 45))], none, [38, 45], [7, 14, 6, 5, 3, 4, 2, 13, 12, 11, 9, 10, 8]⟩,
    ⟨some 47, .bslice 89 2 1 [(.int .i64 (0)), (.slice none 0 0)] [(0, 2, (.tmp 46))], none, [46], [15, 7, 14, 6, 5, 3, 4, 2, 13, 12, 11, 9, 10, 8]⟩,
    ⟨some 48, .append 89 2 32 (.tmp 32) (.tmp 47), none, [32, 47], [1, 16, 14, 0, 15, 7, 6, 5, 3, 4, 2, 13, 12, 11, 9, 10, 8]⟩,
    ⟨some 49, .foff 1 (.tmp 3), none, [3], [0, 1, 2, 3, 4, 5, 6, 7, 8, 9, 10, 11, 12, 13, 14, 15, 16, 17]⟩,
    ⟨none, .store 1 (.tmp 49) (.tmp 48), none, [49, 48], [18, 17, 0, 1, 2, 3, 4, 5, 6, 7, 8, 9, 10, 11, 12, 13, 14, 15, 16]⟩] [1, 2, 3, 5]))
(.reg false [⟨some 29, .mv (.tmp 5), none, [5], []⟩,
    ⟨some 30, .bin .add (.tmp 29) (.const (.int .i64 (1))), none, [29], []⟩,
    ⟨some 5, .mv (.tmp 30), none, [30], []⟩] [1, 2, 3, 5]))))))
(.seq (.reg false [⟨some 50, .load true 2 (.tmp 3), none, [3], []⟩,
    ⟨none, .store 2 (.tmp 2) (.tmp 50), none, [2, 50], []⟩] [2])
.ret)))))
theorem ok_55 : FnOk Tryz.prog 55 51 ac_55 [.cell 2 true 2] := ⟨Tryz.f55, Tryz.func55, by kernel_rfl, by kernel_rfl, by kernel_rfl, by kernel_rfl, by kernel_rfl⟩
def ac_56 : AC :=
(.seq (.reg false [⟨some 2, .mv (.const (.slice none 0 0)), none, [], []⟩] [0])
(.seq (.reg false [⟨some 5, .mksl 5 1 1 [(.int .u8 (0))] (.const (.int .i64 (64))) (.const (.int .i64 (64))), none, [], []⟩,
    ⟨some 3, .mv (.tmp 5), none, [5], []⟩] [0, 3])
(.seq (.seq (.reg false [⟨some 4, .mv (.const (.int .i64 (0))), none, [], []⟩] [0, 3, 4])
(.block 0 (.loop (.seq (.seq (.reg false [⟨some 6, .mv (.tmp 4), none, [4], []⟩,
    ⟨some 7, .mv (.tmp 0), none, [0], []⟩,
    ⟨some 8, .len false (.tmp 7), none, [7], []⟩,
    ⟨some 9, .bin .lss (.tmp 6) (.tmp 8), none, [6, 8], []⟩] [0, 3, 4, 9])
(.cond (.tmp 9)
.skip
(.exit 0)))
(.seq (.block 1 (.reg false [⟨some 12, .mv (.tmp 3), none, [3], []⟩,
    ⟨some 13, .mv (.tmp 4), none, [4], []⟩,
    ⟨some 14, .mv (.tmp 0), none, [0], []⟩,
    ⟨some 15, .mv (.tmp 4), none, [4], []⟩,
    ⟨some 16, .idx 1 (.tmp 14) (.tmp 15), none, [14, 15], []⟩,
    ⟨some 17, .load false 1 (.tmp 16), none, [16], []⟩,
    ⟨some 18, .idx 1 (.tmp 12) (.tmp 13), none, [12, 13], []⟩,
    ⟨none, .store 1 (.tmp 18) (.tmp 17), none, [18, 17], []⟩] [0, 3, 4]))
(.reg false [⟨some 10, .mv (.tmp 4), none, [4], []⟩,
    ⟨some 11, .bin .add (.tmp 10) (.const (.int .i64 (1))), none, [10], []⟩,
    ⟨some 4, .mv (.tmp 11), none, [11], []⟩] [0, 3, 4]))))))
(.seq (.reg false [⟨some 19, .mv (.tmp 3), none, [3], []⟩,
    ⟨some 2, .mv (.tmp 19), none, [19], []⟩] [2])
.ret))))
theorem ok_56 : FnOk Tryz.prog 56 20 ac_56 [.tmp 2] := ⟨Tryz.f56, Tryz.func56, by kernel_rfl, by kernel_rfl, by kernel_rfl, by kernel_rfl, by kernel_rfl⟩
def ac_82 : AC :=
(.seq (.reg false [⟨some 2, .box 47 (.tmp 0), none, [0], []⟩,
    ⟨some 4, .mv (.const (.slice none 0 0)), none, [], []⟩] [1, 2])
(.seq (.reg false [⟨some 7, .foff 0 (.tmp 2), none, [2], []⟩,
    ⟨some 8, .load false 1 (.tmp 7), none, [7], []⟩,
    ⟨some 9, .mv (.tmp 1), none, [1], []⟩,
    ⟨some 10, .idx 1 (.tmp 8) (.tmp 9), none, [8, 9], []⟩,
    ⟨some 11, .load false 1 (.tmp 10), none, [10], []⟩,
    ⟨some 5, .mv (.tmp 11), none, [11], []⟩] [1, 2, 5])
(.seq (.seq (.reg false [⟨some 6, .mv (.const (.int .i64 (0))), none, [], []⟩] [1, 2, 5, 6])
(.block 0 (.loop (.seq (.seq (.reg false [⟨some 12, .mv (.tmp 6), none, [6], []⟩,
    ⟨some 13, .foff 1 (.tmp 2), none, [2], []⟩,
    ⟨some 14, .load false 1 (.tmp 13), none, [13], []⟩,
    ⟨some 15, .len false (.tmp 14), none, [14], []⟩,
    ⟨some 16, .bin .lss (.tmp 12) (.tmp 15), none, [12, 15], []⟩] [1, 2, 5, 6, 16])
(.cond (.tmp 16)
.skip
(.exit 0)))
(.seq (.block 1 (.seq (.reg false [⟨some 19, .foff 1 (.tmp 2), none, [2], []⟩,
    ⟨some 20, .load false 1 (.tmp 19), none, [19], []⟩,
    ⟨some 21, .mv (.tmp 6), none, [6], []⟩,
    ⟨some 22, .idx 2 (.tmp 20) (.tmp 21), none, [20, 21], []⟩,
    ⟨some 23, .foff 0 (.tmp 22), none, [22], []⟩,
    ⟨some 24, .load false 1 (.tmp 23), none, [23], []⟩,
    ⟨some 25, .mv (.tmp 1), none, [1], []⟩,
    ⟨some 26, .bin .eql (.tmp 24) (.tmp 25), none, [24, 25], []⟩] [1, 2, 5, 6, 26])
(.cond (.tmp 26)
(.reg false [⟨some 27, .foff 1 (.tmp 2), none, [2], []⟩,
    ⟨some 28, .load false 1 (.tmp 27), none, [27], []⟩,
    ⟨some 29, .mv (.tmp 6), none, [6], []⟩,
    ⟨some 30, .idx 2 (.tmp 28) (.tmp 29), none, [28, 29], []⟩,
    ⟨some 31, .foff 1 (.tmp 30), none, [30], []⟩,
    ⟨some 32, .load false 1 (.tmp 31), none, [31], []⟩,
    ⟨some 5, .mv (.tmp 32), none, [32], []⟩] [1, 2, 5, 6])
.skip)))
(.reg false [⟨some 17, .mv (.tmp 6), none, [6], []⟩,
    ⟨some 18, .bin .add (.tmp 17) (.const (.int .i64 (1))), none, [17], []⟩,
    ⟨some 6, .mv (.tmp 18), none, [18], []⟩] [1, 2, 5, 6]))))))
(.seq (.reg false [⟨some 33, .mv (.tmp 5), none, [5], []⟩,
    ⟨some 34, .call 57 [(.tmp 33)], none, [33], []⟩,
    ⟨some 4, .mv (.tmp 34), none, [34], []⟩] [4])
.ret))))
theorem ok_82 : FnOk Tryz.prog 82 35 ac_82 [.tmp 4] := ⟨Tryz.f82, Tryz.func82, by kernel_rfl, by kernel_rfl, by kernel_rfl, by kernel_rfl, by kernel_rfl⟩
def ac_31 : AC :=
(.seq (.reg false [⟨some 3, .box 47 (.tmp 0), none, [0], []⟩,
    ⟨some 6, .new 47 [(.slice none 0 0), (.slice none 0 0)], none, [], []⟩,
    ⟨some 7, .mv (.const (.int .i64 (0))), none, [], []⟩] [1, 2, 3, 6])
(.seq (.reg false [⟨some 11, .mv (.tmp 2), none, [2], []⟩,
    ⟨some 12, .len false (.tmp 11), none, [11], []⟩,
    ⟨some 13, .bin .add (.tmp 12) (.const (.int .i64 (64))), none, [12], []⟩,
    ⟨some 14, .bin .sub (.tmp 13) (.const (.int .i64 (1))), none, [13], []⟩,
    ⟨some 15, .bin .quo (.tmp 14) (.const (.int .i64 (64))), none, [14], []⟩,
    ⟨some 8, .mv (.tmp 15), none, [15], []⟩] [1, 2, 3, 6, 8])
(.seq (.block 0 (.seq (.reg false [⟨some 17, .load true 2 (.tmp 3), none, [3], []⟩,
    ⟨some 18, .call 54 [(.tmp 17)], none, [17], []⟩,
    ⟨some 19, .bin .neq (.tmp 18) (.const (.int .i64 (0))), none, [18], []⟩,
    ⟨some 16, .mv (.tmp 19), none, [19], []⟩] [1, 2, 3, 6, 8, 16])
(.cond (.tmp 16)
(.seq (.reg false [⟨some 20, .build [(.slice none 0 0), (.slice none 0 0)] [], none, [], []⟩,
    ⟨none, .store 2 (.tmp 6) (.tmp 20), none, [6, 20], []⟩,
    ⟨some 7, .mv (.const (.int .i64 (9))), none, [], []⟩] [6, 7])
.ret)
(.seq (.reg false [⟨some 22, .mv (.tmp 1), none, [1], []⟩,
    ⟨some 23, .bin .lss (.tmp 22) (.const (.int .i64 (0))), none, [22], []⟩,
    ⟨some 24, .mv (.tmp 23), none, [23], []⟩,
    ⟨some 25, .mv (.tmp 1), some (24, false), [1, 24], []⟩,
    ⟨some 26, .foff 0 (.tmp 3), some (24, false), [3, 24], []⟩,
    ⟨some 27, .load false 1 (.tmp 26), some (24, false), [26, 24], []⟩,
    ⟨some 28, .len false (.tmp 27), some (24, false), [27, 24], []⟩,
    ⟨some 29, .bin .gtr (.tmp 25) (.tmp 28), some (24, false), [25, 28, 24], []⟩,
    ⟨some 30, .pick (.tmp 24) (.const (.bool true)) (.tmp 29), none, [24, 29], []⟩,
    ⟨some 31, .mv (.tmp 30), none, [30], []⟩,
    ⟨some 32, .mv (.tmp 8), some (31, false), [8, 31], []⟩,
    ⟨some 33, .foff 0 (.tmp 3), some (31, false), [3, 31], []⟩,
    ⟨some 34, .load false 1 (.tmp 33), some (31, false), [33, 31], []⟩,
    ⟨some 35, .len false (.tmp 34), some (31, false), [34, 31], []⟩,
    ⟨some 36, .mv (.tmp 1), some (31, false), [1, 31], []⟩,
    ⟨some 37, .bin .sub (.tmp 35) (.tmp 36), some (31, false), [35, 36, 31], []⟩,
    ⟨some 38, .bin .gtr (.tmp 32) (.tmp 37), some (31, false), [32, 37, 31], []⟩,
    ⟨some 39, .pick (.tmp 31) (.const (.bool true)) (.tmp 38), none, [31, 38], []⟩,
    ⟨some 21, .mv (.tmp 39), none, [39], []⟩] [1, 2, 3, 6, 8, 21])
(.cond (.tmp 21)
(.seq (.reg false [⟨some 40, .build [(.slice none 0 0), (.slice none 0 0)] [], none, [], []⟩,
    ⟨none, .store 2 (.tmp 6) (.tmp 40), none, [6, 40], []⟩,
    ⟨some 7, .mv (.const (.int .i64 (41))), none, [], []⟩] [6, 7])
.ret)
(.seq (.reg false [⟨some 42, .foff 1 (.tmp 3), none, [3], []⟩,
    ⟨some 43, .load false 1 (.tmp 42), none, [42], []⟩,
    ⟨some 44, .len false (.tmp 43), none, [43], []⟩,
    ⟨some 45, .mv (.tmp 8), none, [8], []⟩,
    ⟨some 46, .bin .add (.tmp 44) (.tmp 45), none, [44, 45], []⟩,
    ⟨some 47, .bin .gtr (.tmp 46) (.const (.int .i64 (4096))), none, [46], []⟩,
    ⟨some 41, .mv (.tmp 47), none, [47], []⟩] [1, 2, 3, 6, 8, 41])
(.cond (.tmp 41)
(.seq (.reg false [⟨some 48, .build [(.slice none 0 0), (.slice none 0 0)] [], none, [], []⟩,
    ⟨none, .store 2 (.tmp 6) (.tmp 48), none, [6, 48], []⟩,
    ⟨some 7, .mv (.const (.int .i64 (51))), none, [], []⟩] [6, 7])
.ret)
.skip)))))))
(.seq (.reg false [⟨some 49, .load true 2 (.tmp 3), none, [3], []⟩,
    ⟨some 50, .call 55 [(.tmp 49)], none, [49], []⟩,
    ⟨some 9, .new 47 [(.slice none 0 0), (.slice none 0 0)], none, [], []⟩,
    ⟨none, .store 2 (.tmp 9) (.tmp 50), none, [9, 50], []⟩] [1, 2, 6, 8, 9])
(.seq (.seq (.reg false [⟨some 10, .mv (.const (.int .i64 (0))), none, [], []⟩] [1, 2, 6, 8, 9, 10])
(.block 1 (.loop (.seq (.seq (.reg false [⟨some 51, .mv (.tmp 10), none, [10], []⟩,
    ⟨some 52, .mv (.tmp 8), none, [8], []⟩,
    ⟨some 53, .bin .lss (.tmp 51) (.tmp 52), none, [51, 52], []⟩] [1, 2, 6, 8, 9, 10, 53])
(.cond (.tmp 53)
.skip
(.exit 1)))
(.seq (.block 2 (.reg true [⟨some 56, .foff 1 (.tmp 9), none, [9], []⟩,
    ⟨some 57, .load false 1 (.tmp 56), none, [56], [0]⟩,
    ⟨some 58, .mv (.tmp 1), none, [1], []⟩,
    ⟨some 59, .mv (.tmp 10), none, [10], []⟩,
    ⟨some 60, .bin .add (.tmp 58) (.tmp 59), none, [58, 59], [2, 3]⟩,
    ⟨some 61, .mv (.tmp 2), none, [2], []⟩,
    ⟨some 62, .mv (.tmp 10), none, [10], []⟩,
    ⟨some 63, .bin .mul (.const (.int .i64 (64))) (.tmp 62), none, [62], [6]⟩,
    ⟨some 64, .mv (.tmp 10), none, [10], []⟩,
    ⟨some 65, .bin .add (.tmp 64) (.const (.int .i64 (1))), none, [64], [8]⟩,
    ⟨some 66, .bin .mul (.const (.int .i64 (64))) (.tmp 65), none, [65], [9, 8]⟩,
    ⟨some 67, .mv (.tmp 2), none, [2], []⟩,
    ⟨some 68, .len false (.tmp 67), none, [67], [11]⟩,
    ⟨some 69, .mm false (.tmp 66) (.tmp 68), none, [66, 68], [10, 12, 9, 8, 11]⟩,
    ⟨some 70, .slice 1 (.tmp 61) (some (.tmp 63)) (some (.tmp 69)), none, [61, 63, 69], [5, 7, 13, 6, 10, 12, 9, 8, 11]⟩,
    ⟨some 71, .call 56 [(.tmp 70)], none, [70], [14, 5, 7, 13, 6, 10, 12, 9, 8, 11]⟩,
    ⟨some 72, .build [(.int .i64 (0)), (.slice none 0 0)] [(0, 1, (.tmp 60)), (1, 1, (.tmp 71))], none, [60, 71], [4, 15, 2, 3, 14, 5, 7, 13, 6, 10, 12, 9, 8, 11]⟩,
    ⟨some 73, .bslice 89 2 1 [(.int .i64 (0)), (.slice none 0 0)] [(0, 2, (.tmp 72))], none, [72], [16, 4, 15, 2, 3, 14, 5, 7, 13, 6, 10, 12, 9, 8, 11]⟩,
    ⟨some 74, .append 89 2 32 (.tmp 57) (.tmp 73), none, [57, 73], [1, 17, 15, 0, 16, 4, 2, 3, 14, 5, 7, 13, 6, 10, 12, 9, 8, 11]⟩,
    ⟨some 75, .foff 1 (.tmp 9), none, [9], [0, 1, 2, 3, 4, 5, 6, 7, 8, 9, 10, 11, 12, 13, 14, 15, 16, 17, 18]⟩,
    ⟨none, .store 1 (.tmp 75) (.tmp 74), none, [75, 74], [19, 18, 0, 1, 2, 3, 4, 5, 6, 7, 8, 9, 10, 11, 12, 13, 14, 15, 16, 17]⟩] [1, 2, 6, 8, 9, 10]))
(.reg false [⟨some 54, .mv (.tmp 10), none, [10], []⟩,
    ⟨some 55, .bin .add (.tmp 54) (.const (.int .i64 (1))), none, [54], []⟩,
    ⟨some 10, .mv (.tmp 55), none, [55], []⟩] [1, 2, 6, 8, 9, 10]))))))
(.seq (.reg false [⟨some 76, .load true 2 (.tmp 9), none, [9], []⟩,
    ⟨none, .store 2 (.tmp 6) (.tmp 76), none, [6, 76], []⟩,
    ⟨some 7, .mv (.const (.int .i64 (0))), none, [], []⟩] [6, 7])
.ret))))))
theorem ok_31 : FnOk Tryz.prog 31 77 ac_31 [.cell 6 true 2, .tmp 7] := ⟨Tryz.f31, Tryz.func31, by kernel_rfl, by kernel_rfl, by kernel_rfl, by kernel_rfl, by kernel_rfl⟩
def ac_47 : AC :=
(.seq (.reg false [⟨some 3, .box 47 (.tmp 0), none, [0], []⟩,
    ⟨some 6, .mv (.const (.slice none 0 0)), none, [], []⟩,
    ⟨some 7, .mv (.const (.int .i64 (0))), none, [], []⟩] [1, 2, 3])
(.seq (.block 0 (.seq (.reg false [⟨some 11, .load true 2 (.tmp 3), none, [3], []⟩,
    ⟨some 12, .call 54 [(.tmp 11)], none, [11], []⟩,
    ⟨some 13, .bin .neq (.tmp 12) (.const (.int .i64 (0))), none, [12], []⟩,
    ⟨some 10, .mv (.tmp 13), none, [13], []⟩] [1, 2, 3, 10])
(.cond (.tmp 10)
(.seq (.reg false [⟨some 6, .mv (.const (.slice none 0 0)), none, [], []⟩,
    ⟨some 7, .mv (.const (.int .i64 (9))), none, [], []⟩] [6, 7])
.ret)
(.seq (.reg false [⟨some 15, .mv (.tmp 1), none, [1], []⟩,
    ⟨some 16, .bin .lss (.tmp 15) (.const (.int .i64 (0))), none, [15], []⟩,
    ⟨some 17, .mv (.tmp 16), none, [16], []⟩,
    ⟨some 18, .mv (.tmp 2), some (17, false), [2, 17], []⟩,
    ⟨some 19, .bin .lss (.tmp 18) (.const (.int .i64 (0))), some (17, false), [18, 17], []⟩,
    ⟨some 20, .pick (.tmp 17) (.const (.bool true)) (.tmp 19), none, [17, 19], []⟩,
    ⟨some 21, .mv (.tmp 20), none, [20], []⟩,
    ⟨some 22, .mv (.tmp 1), some (21, false), [1, 21], []⟩,
    ⟨some 23, .foff 0 (.tmp 3), some (21, false), [3, 21], []⟩,
    ⟨some 24, .load false 1 (.tmp 23), some (21, false), [23, 21], []⟩,
    ⟨some 25, .len false (.tmp 24), some (21, false), [24, 21], []⟩,
    ⟨some 26, .bin .gtr (.tmp 22) (.tmp 25), some (21, false), [22, 25, 21], []⟩,
    ⟨some 27, .pick (.tmp 21) (.const (.bool true)) (.tmp 26), none, [21, 26], []⟩,
    ⟨some 28, .mv (.tmp 27), none, [27], []⟩,
    ⟨some 29, .mv (.tmp 2), some (28, false), [2, 28], []⟩,
    ⟨some 30, .foff 0 (.tmp 3), some (28, false), [3, 28], []⟩,
    ⟨some 31, .load false 1 (.tmp 30), some (28, false), [30, 28], []⟩,
    ⟨some 32, .len false (.tmp 31), some (28, false), [31, 28], []⟩,
    ⟨some 33, .mv (.tmp 1), some (28, false), [1, 28], []⟩,
    ⟨some 34, .bin .sub (.tmp 32) (.tmp 33), some (28, false), [32, 33, 28], []⟩,
    ⟨some 35, .bin .gtr (.tmp 29) (.tmp 34), some (28, false), [29, 34, 28], []⟩,
    ⟨some 36, .pick (.tmp 28) (.const (.bool true)) (.tmp 35), none, [28, 35], []⟩,
    ⟨some 14, .mv (.tmp 36), none, [36], []⟩] [1, 2, 3, 14])
(.cond (.tmp 14)
(.seq (.reg false [⟨some 6, .mv (.const (.slice none 0 0)), none, [], []⟩,
    ⟨some 7, .mv (.const (.int .i64 (41))), none, [], []⟩] [6, 7])
.ret)
.skip)))))
(.seq (.reg false [⟨some 8, .mv (.const (.slice none 0 0)), none, [], []⟩] [1, 2, 3, 8])
(.seq (.seq (.reg false [⟨some 9, .mv (.const (.int .i64 (0))), none, [], []⟩] [1, 2, 3, 8, 9])
(.block 1 (.loop (.seq (.seq (.reg false [⟨some 37, .mv (.tmp 9), none, [9], []⟩,
    ⟨some 38, .mv (.tmp 2), none, [2], []⟩,
    ⟨some 39, .bin .lss (.tmp 37) (.tmp 38), none, [37, 38], []⟩] [1, 2, 3, 8, 9, 39])
(.cond (.tmp 39)
.skip
(.exit 1)))
(.seq (.block 2 (.reg false [⟨some 42, .mv (.tmp 8), none, [8], []⟩,
    ⟨some 43, .load true 2 (.tmp 3), none, [3], []⟩,
    ⟨some 44, .mv (.tmp 1), none, [1], []⟩,
    ⟨some 45, .mv (.tmp 9), none, [9], []⟩,
    ⟨some 46, .bin .add (.tmp 44) (.tmp 45), none, [44, 45], []⟩,
    ⟨some 47, .call 82 [(.tmp 43), (.tmp 46)], none, [43, 46], []⟩,
    ⟨some 48, .append 5 1 1 (.tmp 42) (.tmp 47), none, [42, 47], []⟩,
    ⟨some 8, .mv (.tmp 48), none, [48], []⟩] [1, 2, 3, 8, 9]))
(.reg false [⟨some 40, .mv (.tmp 9), none, [9], []⟩,
    ⟨some 41, .bin .add (.tmp 40) (.const (.int .i64 (1))), none, [40], []⟩,
    ⟨some 9, .mv (.tmp 41), none, [41], []⟩] [1, 2, 3, 8, 9]))))))
(.seq (.reg false [⟨some 49, .mv (.tmp 8), none, [8], []⟩,
    ⟨some 6, .mv (.tmp 49), none, [49], []⟩,
    ⟨some 7, .mv (.const (.int .i64 (0))), none, [], []⟩] [6, 7])
.ret)))))
theorem ok_47 : FnOk Tryz.prog 47 50 ac_47 [.tmp 6, .tmp 7] := ⟨Tryz.f47, Tryz.func47, by kernel_rfl, by kernel_rfl, by kernel_rfl, by kernel_rfl, by kernel_rfl⟩
def ac_32 : AC :=
(.seq (.reg false [⟨some 2, .box 47 (.tmp 0), none, [0], []⟩,
    ⟨some 4, .new 47 [(.slice none 0 0), (.slice none 0 0)], none, [], []⟩,
    ⟨some 5, .mv (.const (.int .i64 (0))), none, [], []⟩] [1, 2, 4])
(.seq (.seq (.reg false [⟨some 8, .load true 2 (.tmp 2), none, [2], []⟩,
    ⟨some 9, .call 54 [(.tmp 8)], none, [8], []⟩,
    ⟨some 10, .bin .neq (.tmp 9) (.const (.int .i64 (0))), none, [9], []⟩] [1, 2, 4, 10])
(.cond (.tmp 10)
(.seq (.reg false [⟨some 11, .build [(.slice none 0 0), (.slice none 0 0)] [], none, [], []⟩,
    ⟨none, .store 2 (.tmp 4) (.tmp 11), none, [4, 11], []⟩,
    ⟨some 5, .mv (.const (.int .i64 (9))), none, [], []⟩] [4, 5])
.ret)
.skip))
(.seq (.reg false [⟨some 12, .load true 2 (.tmp 2), none, [2], []⟩,
    ⟨some 13, .call 55 [(.tmp 12)], none, [12], []⟩,
    ⟨some 6, .new 47 [(.slice none 0 0), (.slice none 0 0)], none, [], []⟩,
    ⟨none, .store 2 (.tmp 6) (.tmp 13), none, [6, 13], []⟩] [1, 4, 6])
(.seq (.seq (.reg false [⟨some 7, .mv (.const (.int .i64 (0))), none, [], []⟩] [1, 4, 6, 7])
(.block 0 (.loop (.seq (.seq (.reg false [⟨some 14, .mv (.tmp 7), none, [7], []⟩,
    ⟨some 15, .foff 1 (.tmp 6), none, [6], []⟩,
    ⟨some 16, .load false 1 (.tmp 15), none, [15], []⟩,
    ⟨some 17, .len false (.tmp 16), none, [16], []⟩,
    ⟨some 18, .bin .lss (.tmp 14) (.tmp 17), none, [14, 17], []⟩,
    ⟨some 19, .mv (.tmp 18), none, [18], []⟩,
    ⟨some 20, .mv (.tmp 7), some (19, true), [7, 19], []⟩,
    ⟨some 21, .mv (.tmp 1), some (19, true), [1, 19], []⟩,
    ⟨some 22, .len false (.tmp 21), some (19, true), [21, 19], []⟩,
    ⟨some 23, .bin .lss (.tmp 20) (.tmp 22), some (19, true), [20, 22, 19], []⟩,
    ⟨some 24, .pick (.tmp 19) (.tmp 23) (.const (.bool false)), none, [19, 23], []⟩] [1, 4, 6, 7, 24])
(.cond (.tmp 24)
.skip
(.exit 0)))
(.seq (.block 1 (.seq (.reg false [⟨some 27, .mv (.tmp 1), none, [1], []⟩,
    ⟨some 28, .mv (.tmp 7), none, [7], []⟩,
    ⟨some 29, .idx 1 (.tmp 27) (.tmp 28), none, [27, 28], []⟩,
    ⟨some 30, .load false 1 (.tmp 29), none, [29], []⟩] [1, 4, 6, 7, 30])
(.cond (.tmp 30)
(.reg true [⟨some 31, .foff 0 (.tmp 6), none, [6], []⟩,
    ⟨some 32, .load false 1 (.tmp 31), none, [31], [0]⟩,
    ⟨some 33, .foff 1 (.tmp 6), none, [6], []⟩,
    ⟨some 34, .load false 1 (.tmp 33), none, [33], [2]⟩,
    ⟨some 35, .mv (.tmp 7), none, [7], []⟩,
    ⟨some 36, .idx 2 (.tmp 34) (.tmp 35), none, [34, 35], [3, 4, 2]⟩,
    ⟨some 37, .foff 0 (.tmp 36), none, [36], [5, 3, 4, 2]⟩,
    ⟨some 38, .load false 1 (.tmp 37), none, [37], [6, 5, 3, 4, 2]⟩,
    ⟨some 39, .foff 1 (.tmp 6), none, [6], []⟩,
    ⟨some 40, .load false 1 (.tmp 39), none, [39], [8]⟩,
    ⟨some 41, .mv (.tmp 7), none, [7], []⟩,
    ⟨some 42, .idx 2 (.tmp 40) (.tmp 41), none, [40, 41], [9, 10, 8]⟩,
    ⟨some 43, .foff 1 (.tmp 42), none, [42], [11, 9, 10, 8]⟩,
    ⟨some 44, .load false 1 (.tmp 43), none, [43], [12, 11, 9, 10, 8]⟩,
    ⟨some 45, .call 57 [(.tmp 44)], none, [44], [13, 12, 11, 9, 10, 8]⟩,
    ⟨some 46, .idx 1 (.tmp 32) (.tmp 38), none, [32, 38], [1, 7, 0, 2, 3, 4, 5, 6, 8, 9, 10, 11, 12, 13, 14]⟩,
    ⟨none, .store 1 (.tmp 46) (.tmp 45), none, [46, 45], [15, 14, 0, 1, 2, 3, 4, 5, 6, 7, 8, 9, 10, 11, 12, 13]⟩] [1, 4, 6, 7])
.skip)))
(.reg false [⟨some 25, .mv (.tmp 7), none, [7], []⟩,
    ⟨some 26, .bin .add (.tmp 25) (.const (.int .i64 (1))), none, [25], []⟩,
    ⟨some 7, .mv (.tmp 26), none, [26], []⟩] [1, 4, 6, 7]))))))
(.seq (.reg false [⟨some 47, .foff 1 (.tmp 6), none, [6], []⟩,
    ⟨none, .store 1 (.tmp 47) (.const (.slice none 0 0)), none, [47], []⟩] [4, 6])
(.seq (.reg false [⟨some 48, .load true 2 (.tmp 6), none, [6], []⟩,
    ⟨none, .store 2 (.tmp 4) (.tmp 48), none, [4, 48], []⟩,
    ⟨some 5, .mv (.const (.int .i64 (0))), none, [], []⟩] [4, 5])
.ret))))))
theorem ok_32 : FnOk Tryz.prog 32 49 ac_32 [.cell 4 true 2, .tmp 5] := ⟨Tryz.f32, Tryz.func32, by kernel_rfl, by kernel_rfl, by kernel_rfl, by kernel_rfl, by kernel_rfl⟩
def ac_45 : AC :=
(.seq (.reg false [⟨some 1, .box 47 (.tmp 0), none, [0], []⟩,
    ⟨some 2, .new 47 [(.slice none 0 0), (.slice none 0 0)], none, [], []⟩,
    ⟨some 3, .mv (.const (.int .i64 (0))), none, [], []⟩] [1, 2])
(.seq (.reg false [⟨some 6, .foff 1 (.tmp 1), none, [1], []⟩,
    ⟨some 7, .load false 1 (.tmp 6), none, [6], []⟩,
    ⟨some 8, .len false (.tmp 7), none, [7], []⟩,
    ⟨some 9, .mksl 4 1 1 [(.bool false)] (.tmp 8) (.tmp 8), none, [8, 8], []⟩,
    ⟨some 4, .mv (.tmp 9), none, [9], []⟩] [1, 2, 4])
(.seq (.seq (.reg false [⟨some 5, .mv (.const (.int .i64 (0))), none, [], []⟩] [1, 2, 4, 5])
(.block 0 (.loop (.seq (.seq (.reg false [⟨some 10, .mv (.tmp 5), none, [5], []⟩,
    ⟨some 11, .mv (.tmp 4), none, [4], []⟩,
    ⟨some 12, .len false (.tmp 11), none, [11], []⟩,
    ⟨some 13, .bin .lss (.tmp 10) (.tmp 12), none, [10, 12], []⟩] [1, 2, 4, 5, 13])
(.cond (.tmp 13)
.skip
(.exit 0)))
(.seq (.block 1 (.reg false [⟨some 16, .mv (.tmp 4), none, [4], []⟩,
    ⟨some 17, .mv (.tmp 5), none, [5], []⟩,
    ⟨some 18, .idx 1 (.tmp 16) (.tmp 17), none, [16, 17], []⟩,
    ⟨none, .store 1 (.tmp 18) (.const (.bool true)), none, [18], []⟩] [1, 2, 4, 5]))
(.reg false [⟨some 14, .mv (.tmp 5), none, [5], []⟩,
    ⟨some 15, .bin .add (.tmp 14) (.const (.int .i64 (1))), none, [14], []⟩,
    ⟨some 5, .mv (.tmp 15), none, [15], []⟩] [1, 2, 4, 5]))))))
(.seq (.reg false [⟨some 19, .load true 2 (.tmp 1), none, [1], []⟩,
    ⟨some 20, .mv (.tmp 4), none, [4], []⟩,
    ⟨some 21, .call 32 [(.tmp 19), (.tmp 20)], none, [19, 20], []⟩,
    ⟨some 22, .ext 0 (.tmp 21), none, [21], []⟩,
    ⟨some 23, .ext 1 (.tmp 21), none, [21], []⟩,
    ⟨none, .store 2 (.tmp 2) (.tmp 22), none, [2, 22], []⟩,
    ⟨some 3, .mv (.tmp 23), none, [23], []⟩] [2, 3])
.ret))))
theorem ok_45 : FnOk Tryz.prog 45 24 ac_45 [.cell 2 true 2, .tmp 3] := ⟨Tryz.f45, Tryz.func45, by kernel_rfl, by kernel_rfl, by kernel_rfl, by kernel_rfl, by kernel_rfl⟩
def ac_44 : AC :=
(.seq (.reg false [⟨some 1, .box 47 (.tmp 0), none, [0], []⟩,
    ⟨some 2, .mv (.const (.int .i64 (0))), none, [], []⟩] [1])
(.seq (.reg false [⟨some 4, .load true 2 (.tmp 1), none, [1], []⟩,
    ⟨some 5, .call 54 [(.tmp 4)], none, [4], []⟩,
    ⟨some 3, .mv (.tmp 5), none, [5], []⟩] [1, 3])
(.seq (.block 0 (.seq (.reg false [⟨some 7, .mv (.tmp 3), none, [3], []⟩,
    ⟨some 8, .bin .neq (.tmp 7) (.const (.int .i64 (0))), none, [7], []⟩,
    ⟨some 6, .mv (.tmp 8), none, [8], []⟩] [1, 3, 6])
(.cond (.tmp 6)
(.seq (.reg false [⟨some 9, .mv (.tmp 3), none, [3], []⟩,
    ⟨some 2, .mv (.tmp 9), none, [9], []⟩] [2])
.ret)
(.seq (.reg false [⟨some 11, .foff 0 (.tmp 1), none, [1], []⟩,
    ⟨some 12, .load false 1 (.tmp 11), none, [11], []⟩,
    ⟨some 13, .len false (.tmp 12), none, [12], []⟩,
    ⟨some 14, .bin .lss (.tmp 13) (.const (.int .i64 (16))), none, [13], []⟩,
    ⟨some 10, .mv (.tmp 14), none, [14], []⟩] [10])
(.cond (.tmp 10)
(.seq (.reg false [⟨some 2, .mv (.const (.int .i64 (41))), none, [], []⟩] [2])
.ret)
.skip)))))
(.seq (.reg false [⟨some 2, .mv (.const (.int .i64 (0))), none, [], []⟩] [2])
.ret))))
theorem ok_44 : FnOk Tryz.prog 44 15 ac_44 [.tmp 2] := ⟨Tryz.f44, Tryz.func44, by kernel_rfl, by kernel_rfl, by kernel_rfl, by kernel_rfl, by kernel_rfl⟩
def ac_22 : AC :=
(.seq (.reg false [⟨some 2, .box 47 (.tmp 0), none, [0], []⟩,
    ⟨some 3, .box 24 (.tmp 1), none, [1], []⟩,
    ⟨some 4, .new 47 [(.slice none 0 0), (.slice none 0 0)], none, [], []⟩,
    ⟨some 5, .mv (.const (.int .i64 (0))), none, [], []⟩] [2, 3, 4])
(.seq (.reg false [⟨some 11, .load true 2 (.tmp 2), none, [2], []⟩,
    ⟨some 12, .call 44 [(.tmp 11)], none, [11], []⟩,
    ⟨some 6, .mv (.tmp 12), none, [12], []⟩] [2, 3, 4, 6])
(.seq (.seq (.reg false [⟨some 13, .mv (.tmp 6), none, [6], []⟩,
    ⟨some 14, .bin .neq (.tmp 13) (.const (.int .i64 (0))), none, [13], []⟩] [2, 3, 4, 6, 14])
(.cond (.tmp 14)
(.seq (.reg false [⟨some 15, .build [(.slice none 0 0), (.slice none 0 0)] [], none, [], []⟩,
    ⟨some 16, .mv (.tmp 6), none, [6], []⟩,
    ⟨none, .store 2 (.tmp 4) (.tmp 15), none, [4, 15], []⟩,
    ⟨some 5, .mv (.tmp 16), none, [16], []⟩] [4, 5])
.ret)
.skip))
(.seq (.reg false [⟨some 18, .load true 5 (.tmp 3), none, [3], []⟩,
    ⟨some 19, .call 11 [(.tmp 18)], none, [18], []⟩,
    ⟨some 17, .mv (.tmp 19), none, [19], []⟩,
    ⟨some 20, .ext 0 (.tmp 17), none, [17], []⟩,
    ⟨some 21, .ext 1 (.tmp 17), none, [17], []⟩,
    ⟨some 7, .mv (.tmp 20), none, [20], []⟩,
    ⟨some 8, .mv (.tmp 21), none, [21], []⟩] [2, 3, 4, 7, 8])
(.seq (.seq (.reg false [⟨some 22, .mv (.tmp 8), none, [8], []⟩,
    ⟨some 23, .bin .neq (.tmp 22) (.const (.int .i64 (0))), none, [22], []⟩] [2, 3, 4, 7, 8, 23])
(.cond (.tmp 23)
(.seq (.reg false [⟨some 24, .build [(.slice none 0 0), (.slice none 0 0)] [], none, [], []⟩,
    ⟨some 25, .mv (.tmp 8), none, [8], []⟩,
    ⟨none, .store 2 (.tmp 4) (.tmp 24), none, [4, 24], []⟩,
    ⟨some 5, .mv (.tmp 25), none, [25], []⟩] [4, 5])
.ret)
.skip))
(.seq (.reg false [⟨some 27, .load true 2 (.tmp 2), none, [2], []⟩,
    ⟨some 28, .foff 0 (.tmp 3), none, [3], []⟩,
    ⟨some 29, .load false 1 (.tmp 28), none, [28], []⟩,
    ⟨some 30, .bin .rem (.tmp 29) (.const (.int .i64 (2))), none, [29], []⟩,
    ⟨some 31, .bin .mul (.const (.int .i64 (8))) (.tmp 30), none, [30], []⟩,
    ⟨some 32, .mv (.tmp 7), none, [7], []⟩,
    ⟨some 33, .call 31 [(.tmp 27), (.tmp 31), (.tmp 32)], none, [27, 31, 32], []⟩,
    ⟨some 26, .mv (.tmp 33), none, [33], []⟩,
    ⟨some 34, .ext 0 (.tmp 26), none, [26], []⟩,
    ⟨some 35, .ext 1 (.tmp 26), none, [26], []⟩,
    ⟨some 9, .new 47 [(.slice none 0 0), (.slice none 0 0)], none, [], []⟩,
    ⟨none, .store 2 (.tmp 9) (.tmp 34), none, [9, 34], []⟩,
    ⟨some 10, .mv (.tmp 35), none, [35], []⟩] [4, 9, 10])
(.seq (.seq (.reg false [⟨some 36, .mv (.tmp 10), none, [10], []⟩,
    ⟨some 37, .bin .neq (.tmp 36) (.const (.int .i64 (0))), none, [36], []⟩] [4, 9, 10, 37])
(.cond (.tmp 37)
(.seq (.reg false [⟨some 38, .build [(.slice none 0 0), (.slice none 0 0)] [], none, [], []⟩,
    ⟨some 39, .mv (.tmp 10), none, [10], []⟩,
    ⟨none, .store 2 (.tmp 4) (.tmp 38), none, [4, 38], []⟩,
    ⟨some 5, .mv (.tmp 39), none, [39], []⟩] [4, 5])
.ret)
.skip))
(.seq (.reg false [⟨some 40, .load true 2 (.tmp 9), none, [9], []⟩,
    ⟨some 41, .call 45 [(.tmp 40)], none, [40], []⟩,
    ⟨some 42, .ext 0 (.tmp 41), none, [41], []⟩,
    ⟨some 43, .ext 1 (.tmp 41), none, [41], []⟩,
    ⟨none, .store 2 (.tmp 4) (.tmp 42), none, [4, 42], []⟩,
    ⟨some 5, .mv (.tmp 43), none, [43], []⟩] [4, 5])
.ret))))))))
theorem ok_22 : FnOk Tryz.prog 22 44 ac_22 [.cell 4 true 2, .tmp 5] := ⟨Tryz.f22, Tryz.func22, by kernel_rfl, by kernel_rfl, by kernel_rfl, by kernel_rfl, by kernel_rfl⟩
def ac_24 : AC :=
(.seq (.reg false [⟨some 1, .box 47 (.tmp 0), none, [0], []⟩,
    ⟨some 2, .new 24 [(.int .i64 (0)), (.int .i64 (0)), (.int .i64 (0)), (.int .i64 (0)), (.slice none 0 0)], none, [], []⟩,
    ⟨some 3, .mv (.const (.int .i64 (0))), none, [], []⟩] [1, 2])
(.seq (.reg false [⟨some 13, .load true 2 (.tmp 1), none, [1], []⟩,
    ⟨some 14, .call 44 [(.tmp 13)], none, [13], []⟩,
    ⟨some 4, .mv (.tmp 14), none, [14], []⟩] [1, 2, 4])
(.seq (.seq (.reg false [⟨some 15, .mv (.tmp 4), none, [4], []⟩,
    ⟨some 16, .bin .neq (.tmp 15) (.const (.int .i64 (0))), none, [15], []⟩] [1, 2, 4, 16])
(.cond (.tmp 16)
(.seq (.reg false [⟨some 17, .build [(.int .i64 (0)), (.int .i64 (0)), (.int .i64 (0)), (.int .i64 (0)), (.slice none 0 0)] [], none, [], []⟩,
    ⟨some 18, .mv (.tmp 4), none, [4], []⟩,
    ⟨none, .store 5 (.tmp 2) (.tmp 17), none, [2, 17], []⟩,
    ⟨some 3, .mv (.tmp 18), none, [18], []⟩] [2, 3])
.ret)
.skip))
(.seq (.reg false [⟨some 20, .load true 2 (.tmp 1), none, [1], []⟩,
    ⟨some 21, .call 47 [(.tmp 20), (.const (.int .i64 (0))), (.const (.int .i64 (8)))], none, [20], []⟩,
    ⟨some 19, .mv (.tmp 21), none, [21], []⟩,
    ⟨some 22, .ext 0 (.tmp 19), none, [19], []⟩,
    ⟨some 23, .ext 1 (.tmp 19), none, [19], []⟩,
    ⟨some 5, .mv (.tmp 22), none, [22], []⟩,
    ⟨some 6, .mv (.tmp 23), none, [23], []⟩] [1, 2, 5])
(.seq (.reg false [⟨some 25, .load true 2 (.tmp 1), none, [1], []⟩,
    ⟨some 26, .call 47 [(.tmp 25), (.const (.int .i64 (8))), (.const (.int .i64 (8)))], none, [25], []⟩,
    ⟨some 24, .mv (.tmp 26), none, [26], []⟩,
    ⟨some 27, .ext 0 (.tmp 24), none, [24], []⟩,
    ⟨some 28, .ext 1 (.tmp 24), none, [24], []⟩,
    ⟨some 7, .mv (.tmp 27), none, [27], []⟩,
    ⟨some 8, .mv (.tmp 28), none, [28], []⟩] [2, 5, 7])
(.seq (.reg false [⟨some 30, .mv (.tmp 5), none, [5], []⟩,
    ⟨some 31, .call 13 [(.tmp 30)], none, [30], []⟩,
    ⟨some 29, .mv (.tmp 31), none, [31], []⟩,
    ⟨some 32, .ext 0 (.tmp 29), none, [29], []⟩,
    ⟨some 33, .ext 1 (.tmp 29), none, [29], []⟩,
    ⟨some 9, .new 24 [(.int .i64 (0)), (.int .i64 (0)), (.int .i64 (0)), (.int .i64 (0)), (.slice none 0 0)], none, [], []⟩,
    ⟨none, .store 5 (.tmp 9) (.tmp 32), none, [9, 32], []⟩,
    ⟨some 10, .mv (.tmp 33), none, [33], []⟩] [2, 7, 9, 10])
(.seq (.reg false [⟨some 35, .mv (.tmp 7), none, [7], []⟩,
    ⟨some 36, .call 13 [(.tmp 35)], none, [35], []⟩,
    ⟨some 34, .mv (.tmp 36), none, [36], []⟩,
    ⟨some 37, .ext 0 (.tmp 34), none, [34], []⟩,
    ⟨some 38, .ext 1 (.tmp 34), none, [34], []⟩,
    ⟨some 11, .new 24 [(.int .i64 (0)), (.int .i64 (0)), (.int .i64 (0)), (.int .i64 (0)), (.slice none 0 0)], none, [], []⟩,
    ⟨none, .store 5 (.tmp 11) (.tmp 37), none, [11, 37], []⟩,
    ⟨some 12, .mv (.tmp 38), none, [38], []⟩] [2, 9, 10, 11, 12])
(.seq (.block 0 (.seq (.reg false [⟨some 40, .mv (.tmp 10), none, [10], []⟩,
    ⟨some 41, .bin .neq (.tmp 40) (.const (.int .i64 (0))), none, [40], []⟩,
    ⟨some 42, .mv (.tmp 41), none, [41], []⟩,
    ⟨some 43, .mv (.tmp 12), some (42, true), [12, 42], []⟩,
    ⟨some 44, .bin .neq (.tmp 43) (.const (.int .i64 (0))), some (42, true), [43, 42], []⟩,
    ⟨some 45, .pick (.tmp 42) (.tmp 44) (.const (.bool false)), none, [42, 44], []⟩,
    ⟨some 39, .mv (.tmp 45), none, [45], []⟩] [2, 9, 10, 11, 12, 39])
(.cond (.tmp 39)
(.seq (.reg false [⟨some 46, .build [(.int .i64 (0)), (.int .i64 (0)), (.int .i64 (0)), (.int .i64 (0)), (.slice none 0 0)] [], none, [], []⟩,
    ⟨none, .store 5 (.tmp 2) (.tmp 46), none, [2, 46], []⟩,
    ⟨some 3, .mv (.const (.int .i64 (21))), none, [], []⟩] [2, 3])
.ret)
(.seq (.reg false [⟨some 48, .mv (.tmp 10), none, [10], []⟩,
    ⟨some 49, .bin .neq (.tmp 48) (.const (.int .i64 (0))), none, [48], []⟩,
    ⟨some 50, .mv (.tmp 49), none, [49], []⟩,
    ⟨some 51, .mv (.tmp 12), some (50, false), [12, 50], []⟩,
    ⟨some 52, .bin .eql (.tmp 51) (.const (.int .i64 (0))), some (50, false), [51, 50], []⟩,
    ⟨some 53, .mv (.tmp 52), some (50, false), [52, 50], []⟩,
    ⟨some 54, .foff 0 (.tmp 11), some (53, true), [11, 53], []⟩,
    ⟨some 55, .load false 1 (.tmp 54), some (53, true), [54, 53], []⟩,
    ⟨some 56, .foff 0 (.tmp 9), some (53, true), [9, 53], []⟩,
    ⟨some 57, .load false 1 (.tmp 56), some (53, true), [56, 53], []⟩,
    ⟨some 58, .bin .gtr (.tmp 55) (.tmp 57), some (53, true), [55, 57, 53], []⟩,
    ⟨some 59, .pick (.tmp 53) (.tmp 58) (.const (.bool false)), some (50, false), [53, 58, 50], []⟩,
    ⟨some 60, .pick (.tmp 50) (.const (.bool true)) (.tmp 59), none, [50, 59], []⟩,
    ⟨some 47, .mv (.tmp 60), none, [60], []⟩] [2, 9, 11, 47])
(.cond (.tmp 47)
(.seq (.reg false [⟨some 61, .load true 5 (.tmp 11), none, [11], []⟩,
    ⟨none, .store 5 (.tmp 2) (.tmp 61), none, [2, 61], []⟩,
    ⟨some 3, .mv (.const (.int .i64 (0))), none, [], []⟩] [2, 3])
.ret)
.skip)))))
(.seq (.reg false [⟨some 62, .load true 5 (.tmp 9), none, [9], []⟩,
    ⟨none, .store 5 (.tmp 2) (.tmp 62), none, [2, 62], []⟩,
    ⟨some 3, .mv (.const (.int .i64 (0))), none, [], []⟩] [2, 3])
.ret)))))))))
theorem ok_24 : FnOk Tryz.prog 24 63 ac_24 [.cell 2 true 5, .tmp 3] := ⟨Tryz.f24, Tryz.func24, by kernel_rfl, by kernel_rfl, by kernel_rfl, by kernel_rfl, by kernel_rfl⟩
end Go.Proofs.YtdenddhdeloceaaGreatDoor
/- Contracts: the law's helpers. -/
namespace Go.Proofs.YtdenddhdeloceaaGreatDoor
open Go.RowKit
set_option maxRecDepth 100000
theorem eq_upto {α : Type} {a b : List α} (hl : a.length = b.length) (h : ∀ j, j < a.length → a[j]? = b[j]?) : a = b := by
  apply List.ext_getElem? 
  intro j
  by_cases hj : j < a.length
  · exact h j hj
  · rw [List.getElem?_eq_none (by omega), List.getElem?_eq_none (by omega)]
abbrev L_sameB (fa fb : Bool) (a b : List Int) (k : Nat) : ASt := ⟨envOf [(0, fB fa a), (1, fB fb b), (5, .v (.int .i64 k))], heapOf [], 0⟩
theorem sameBytes_spec (fa fb : Bool) (a b : List Int) (nb : Nat) (hz : a.length ≤ 140737488355328) : ASound Tryz.prog 14 [fB fa a, fB fb b] nb (.ret (.v (.bool (decide (a = b)))) []) := by
  refine ok_14.sound (by simp) ⟨al_fB a, al_fB b, trivial⟩ ?_
  simp only [ac_14, TT, ↓reduceIte, Nat.reduceEqDiff, Nat.reduceAdd, Nat.reduceMul, reduceCtorEq, Nat.reduceLeDiff]
  by_cases hl : a.length = b.length
  · have hl' : (a.length : Int) = (b.length : Int) := by omega
    simp only [hl', not_true, TT, ↓reduceIte, Nat.reduceEqDiff, Nat.reduceAdd, Nat.reduceMul, reduceCtorEq, Nat.reduceLeDiff]
    refine AWc.family (L_sameB fa fb a b) (fun k => k ≤ a.length ∧ ∀ j, j < k → a[j]? = b[j]?) (fun k => a.length - k) 0 ⟨Nat.zero_le _, fun j h => absurd h (Nat.not_lt_zero _)⟩ ?_ ?_
    · refine Weak.calc [] (by decide) ?_ ?_ <;> simp [WT]
    · rintro k ⟨hk, hj⟩
      by_cases hlt : k < a.length
      · obtain ⟨x, hx, e1, e0⟩ := lt_at hlt
        obtain ⟨y, hy, e2, _⟩ := lt_at (show k < b.length by omega)
        have g1 := get_B hx
        have g2 := get_B hy
        simp only [L_sameB, g1, g2, e1, e0, e2, TT, ↓reduceIte, Nat.reduceEqDiff, Nat.reduceAdd, Nat.reduceMul, reduceCtorEq, Nat.reduceLeDiff]
        refine ⟨by rfl, ?_⟩
        split
        · rename_i hne
          have : ¬ a = b := by intro h; subst h; rw [hx] at hy; cases hy; exact hne rfl
          exact Ends.data (.inr rfl) (by simp [this, ET]) trivial
        · rename_i hne
          have hxy : x = y := by simpa using hne
          refine famC_next (k + 1) (by omega) ⟨by omega, fun j hj1 => ?_⟩ ?_
          · by_cases e : j = k
            · subst e; rw [hx, hy, hxy]
            · exact hj j (by omega)
          · refine Weak.calc [] (by decide) ?_ ?_ <;> simp [WT, wrap64 (x := (k : Int) + 1) (by omega)]
      · have e1 : ¬ ((k : Int) < (a.length : Int)) := by omega
        simp only [L_sameB, e1, TT, ↓reduceIte, Nat.reduceEqDiff, Nat.reduceAdd, Nat.reduceMul, reduceCtorEq, Nat.reduceLeDiff]
        have : a = b := eq_upto hl fun j h => hj j (by omega)
        exact Ends.data (.inr rfl) (by simp [this, ET]) trivial
  · have hl' : ¬ (a.length : Int) = (b.length : Int) := by omega
    simp only [hl', not_false_eq_true, TT, ↓reduceIte, Nat.reduceEqDiff, Nat.reduceAdd, Nat.reduceMul, reduceCtorEq, Nat.reduceLeDiff]
    have : ¬ a = b := fun h => hl (by rw [h])
    exact Ends.data (.inr rfl) (by simp [this, ET]) trivial
theorem of_spec (fr : Bool) (p : Pt) (nb : Nat) (h : p.data.length ≤ 140737488355328) : ASound Tryz.prog 8 [aPt fr p] nb (.ret (aPt true p) []) := by
  refine ok_8.sound (by simp) ⟨al_aPt p, trivial⟩ ?_
  have hc := copyBytes_spec fr p.data
  simp only [fB] at hc
  simp only [ac_8, TT, ↓reduceIte, Nat.reduceEqDiff, Nat.reduceAdd, Nat.reduceMul, reduceCtorEq, Nat.reduceLeDiff]
  refine ⟨_, hc _ h, ?_⟩
  simp only [TT, ↓reduceIte, Nat.reduceEqDiff, Nat.reduceAdd, Nat.reduceMul, reduceCtorEq, Nat.reduceLeDiff]
  refine ⟨by rfl, ?_⟩
  exact Ends.data (r := aPt true p) (.inr rfl) (by simp [ET, aPt, fB]) (al_aPt _)
def sameP (a b : Pt) : Prop := a.epoch = b.epoch ∧ a.seq = b.seq ∧ a.view = b.view ∧ a.commit = b.commit ∧ a.data = b.data
instance (a b : Pt) : Decidable (sameP a b) := by unfold sameP; infer_instance
theorem sameP_iff {a b : Pt} : sameP a b ↔ a = b := by
  constructor
  · rintro ⟨h1, h2, h3, h4, h5⟩
    cases a; cases b
    simp only at h1 h2 h3 h4 h5
    subst h1; subst h2; subst h3; subst h4; subst h5
    rfl
  · rintro rfl; exact ⟨rfl, rfl, rfl, rfl, rfl⟩
theorem sameP_spec (fa fb : Bool) (a b : Pt) (nb : Nat) (hz : a.data.length ≤ 140737488355328) : ASound Tryz.prog 16 [aPt fa a, aPt fb b] nb (.ret (.v (.bool (decide (sameP a b)))) []) := by
  refine ok_16.sound (by simp) ⟨al_aPt a, al_aPt b, trivial⟩ ?_
  have hs := sameBytes_spec fa fb a.data b.data
  simp only [fB] at hs
  by_cases h1 : a.epoch = b.epoch
  · by_cases h2 : a.seq = b.seq
    · by_cases h3 : a.view = b.view
      · by_cases h4 : a.commit = b.commit
        · have hd : sameP a b ↔ a.data = b.data := ⟨fun h => h.2.2.2.2, fun h => ⟨h1, h2, h3, h4, h⟩⟩
          simp only [ac_16, h1, h2, h3, h4, TT, ↓reduceIte, Nat.reduceEqDiff, Nat.reduceAdd, Nat.reduceMul, reduceCtorEq, Nat.reduceLeDiff]
          refine ⟨_, hs _ hz, ?_⟩
          simp only [TT, ↓reduceIte, Nat.reduceEqDiff, Nat.reduceAdd, Nat.reduceMul, reduceCtorEq, Nat.reduceLeDiff]
          exact Ends.data (.inr rfl) (by simp [ET, hd]) trivial
        · have hd : ¬ sameP a b := fun h => h4 h.2.2.2.1
          simp only [ac_16, h1, h2, h3, h4, TT, ↓reduceIte, Nat.reduceEqDiff, Nat.reduceAdd, Nat.reduceMul, reduceCtorEq, Nat.reduceLeDiff]
          exact Ends.data (.inr rfl) (by simp [ET, hd]) trivial
      · have hd : ¬ sameP a b := fun h => h3 h.2.2.1
        simp only [ac_16, h1, h2, h3, TT, ↓reduceIte, Nat.reduceEqDiff, Nat.reduceAdd, Nat.reduceMul, reduceCtorEq, Nat.reduceLeDiff]
        exact Ends.data (.inr rfl) (by simp [ET, hd]) trivial
    · have hd : ¬ sameP a b := fun h => h2 h.2.1
      simp only [ac_16, h1, h2, TT, ↓reduceIte, Nat.reduceEqDiff, Nat.reduceAdd, Nat.reduceMul, reduceCtorEq, Nat.reduceLeDiff]
      exact Ends.data (.inr rfl) (by simp [ET, hd]) trivial
  · have hd : ¬ sameP a b := fun h => h1 h.1
    simp only [ac_16, h1, TT, ↓reduceIte, Nat.reduceEqDiff, Nat.reduceAdd, Nat.reduceMul, reduceCtorEq, Nat.reduceLeDiff]
    exact Ends.data (.inr rfl) (by simp [ET, hd]) trivial
theorem eL_nil {fr : Bool} : eL fr [] = [] := rfl
abbrev L_cl (fr : Bool) (l : List (List Int)) (i : Nat) : ASt := ⟨envOf [(0, fL fr l), (3, .os 0 0 i 1), (4, .v (.int .i64 i))], heapOf [(0, .row true 22 (eL true (l.take i)))], 1⟩
theorem copyLists_spec (fr : Bool) (l : List (List Int)) (nb : Nat) (hl : l.length ≤ 5864062014805) (hz : ∀ t ∈ l, t.length ≤ 140737488355328) : ASound Tryz.prog 41 [fL fr l] nb (.ret (fL true l) []) := by
  refine ok_41.sound (by simp) ⟨al_fL l, trivial⟩ ?_
  simp only [ac_41, TT, ↓reduceIte, Nat.reduceEqDiff, Nat.reduceAdd, Nat.reduceMul, reduceCtorEq, Nat.reduceLeDiff]
  refine AWc.family (L_cl fr l) (fun i => i ≤ l.length) (fun i => l.length - i) 0 (Nat.zero_le _) ?_ ?_
  · refine Weak.trans (Weak.virtC 22 1 (l := [(0, fL fr l), (3, .os 300000 0 0 1), (4, .v (.int .i64 0))]) (h := []) ?_ ?_) (Weak.calc [(300000, 0)] (by decide) ?_ ?_)
    all_goals simp [WT, eL_nil]
  · intro i hi
    by_cases hlt : i < l.length
    · obtain ⟨t, hx, e1, e0⟩ := lt_at hlt
      have hc := copyBytes_spec fr t
      simp only [fB] at hc
      have hti : (l.take i).length = i := List.length_take_of_le hi
      have hcs : eL true (l.take i) ++ [AV.fs true (eB t) t.length] = eL true (l.take (i + 1)) := by rw [take_snoc hx, app_L]; rfl
      simp only [L_cl, e1, e0, get_L hx, TT, ↓reduceIte, Nat.reduceEqDiff, Nat.reduceAdd, Nat.reduceMul, reduceCtorEq, Nat.reduceLeDiff]
      refine ⟨_, hc _ (hz t (List.mem_of_getElem? hx)), ?_⟩
      simp only [len_L, hti, hcs, TT, ↓reduceIte, Nat.reduceEqDiff, Nat.reduceAdd, Nat.reduceMul, reduceCtorEq, Nat.reduceLeDiff]
      rw [if_pos (by omega)]
      refine famC_next (i + 1) (by omega) (by omega) ?_
      refine Weak.calc [(1100001, 0)] (by decide) ?_ ?_ <;> simp [WT, wrap64 (x := (i : Int) + 1) (by omega)]
    · obtain rfl : i = l.length := by omega
      have e1 : ¬ ((l.length : Int) < (l.length : Int)) := by omega
      simp only [L_cl, e1, List.take_length, TT, ↓reduceIte, Nat.reduceEqDiff, Nat.reduceAdd, Nat.reduceMul, reduceCtorEq, Nat.reduceLeDiff]
      refine Ends.weak (Weak.freezeC 0 rfl (l := [(2, fL true l)]) (h := []) ?_ ?_) (Ends.data (.inr rfl) (by simp [ET, fL]) (al_fL _))
      · simp [WT]
      · simp [WT]
end Go.Proofs.YtdenddhdeloceaaGreatDoor
/- Contracts: the law's helpers on disks. -/
namespace Go.Proofs.YtdenddhdeloceaaGreatDoor
open Go.RowKit
set_option maxRecDepth 100000
abbrev L_sl (fa fb : Bool) (a b : List (List Int)) (k : Nat) : ASt := ⟨envOf [(0, fL fa a), (1, fL fb b), (5, .v (.int .i64 k))], heapOf [], 0⟩
theorem sameLists_spec (fa fb : Bool) (a b : List (List Int)) (nb : Nat) (hn : a.length ≤ 140737488355328) (hz : ∀ t ∈ a, t.length ≤ 140737488355328) : ASound Tryz.prog 48 [fL fa a, fL fb b] nb (.ret (.v (.bool (decide (a = b)))) []) := by
  refine ok_48.sound (by simp) ⟨al_fL a, al_fL b, trivial⟩ ?_
  simp only [ac_48, TT, ↓reduceIte, Nat.reduceEqDiff, Nat.reduceAdd, Nat.reduceMul, reduceCtorEq, Nat.reduceLeDiff]
  by_cases hl : a.length = b.length
  · have hl' : (a.length : Int) = (b.length : Int) := by omega
    simp only [hl', not_true, TT, ↓reduceIte, Nat.reduceEqDiff, Nat.reduceAdd, Nat.reduceMul, reduceCtorEq, Nat.reduceLeDiff]
    refine AWc.family (L_sl fa fb a b) (fun k => k ≤ a.length ∧ ∀ j, j < k → a[j]? = b[j]?) (fun k => a.length - k) 0 ⟨Nat.zero_le _, fun j h => absurd h (Nat.not_lt_zero _)⟩ ?_ ?_
    · refine Weak.calc [] (by decide) ?_ ?_ <;> simp [WT]
    · rintro k ⟨hk, hj⟩
      by_cases hlt : k < a.length
      · obtain ⟨x, hx, e1, e0⟩ := lt_at hlt
        obtain ⟨y, hy, e2, _⟩ := lt_at (show k < b.length by omega)
        have g1 := get_L (fr := fa) hx
        have g2 := get_L (fr := fb) hy
        have hs := sameBytes_spec fa fb x y
        simp only [fB] at hs
        simp only [L_sl, g1, g2, e1, e0, e2, TT, ↓reduceIte, Nat.reduceEqDiff, Nat.reduceAdd, Nat.reduceMul, reduceCtorEq, Nat.reduceLeDiff]
        refine ⟨_, hs _ (hz x (List.mem_of_getElem? hx)), ?_⟩
        by_cases hxy : x = y
        · simp only [hxy, decide_true, Bool.not_true, TT, ↓reduceIte, Nat.reduceEqDiff, Nat.reduceAdd, Nat.reduceMul, reduceCtorEq, Nat.reduceLeDiff]
          refine ⟨by rfl, ?_⟩
          refine famC_next (k + 1) (by omega) ⟨by omega, fun j hj1 => ?_⟩ ?_
          · by_cases e : j = k
            · subst e; rw [hx, hy, hxy]
            · exact hj j (by omega)
          · refine Weak.calc [] (by decide) ?_ ?_ <;> simp [WT, wrap64 (x := (k : Int) + 1) (by omega)]
        · simp only [hxy, decide_false, Bool.not_false, TT, ↓reduceIte, Nat.reduceEqDiff, Nat.reduceAdd, Nat.reduceMul, reduceCtorEq, Nat.reduceLeDiff]
          refine ⟨by rfl, ?_⟩
          have : ¬ a = b := by intro h; subst h; rw [hx] at hy; cases hy; exact hxy rfl
          exact Ends.data (.inr rfl) (by simp [this, ET]) trivial
      · have e1 : ¬ ((k : Int) < (a.length : Int)) := by omega
        simp only [L_sl, e1, TT, ↓reduceIte, Nat.reduceEqDiff, Nat.reduceAdd, Nat.reduceMul, reduceCtorEq, Nat.reduceLeDiff]
        have : a = b := eq_upto hl fun j h => hj j (by omega)
        exact Ends.data (.inr rfl) (by simp [this, ET]) trivial
  · have hl' : ¬ (a.length : Int) = (b.length : Int) := by omega
    simp only [hl', not_false_eq_true, TT, ↓reduceIte, Nat.reduceEqDiff, Nat.reduceAdd, Nat.reduceMul, reduceCtorEq, Nat.reduceLeDiff]
    have : ¬ a = b := fun h => hl (by rw [h])
    exact Ends.data (.inr rfl) (by simp [this, ET]) trivial
theorem eWrs_nil {fr : Bool} : eWrs fr [] = [] := rfl
theorem eWrs_snoc {fr : Bool} {l : List Wr} {k : Nat} {w : Wr} (h : l[k]? = some w) : eWrs fr (l.take k) ++ [.v (.int .i64 w.sec), .fs fr (eB w.data) w.data.length] = eWrs fr (l.take (k + 1)) := by
  rw [take_snoc h, app_Wrs]; rfl
abbrev L_of (fr : Bool) (d : Dk) (i : Nat) : ASt := ⟨envOf [(1, .op 0 0), (2, .op 1 0), (3, .op 2 0), (4, .v (.int .i64 i))],
  heapOf [(0, .row true 47 [fL fr d.sectors, fWrs fr d.cache]), (1, .row true 50 [.v (.slice none 0 0), .v (.slice none 0 0)]), (2, .row true 50 [fL true d.sectors, .os 3 0 i 2]), (3, .row true 90 (eWrs true (d.cache.take i)))], 4⟩
set_option maxHeartbeats 1000000 in
theorem lawOf_spec (fr : Bool) (d : Dk) (nb : Nat) (h1 : d.sectors.length ≤ 5864062014805) (h2 : ∀ t ∈ d.sectors, t.length ≤ 140737488355328) (h3 : d.cache.length ≤ 4398046511104) (h4 : ∀ w ∈ d.cache, w.data.length ≤ 140737488355328) : ASound Tryz.prog 20 [aDk fr d] nb (.ret (aDk true d) []) := by
  refine ok_20.sound (by simp) ⟨al_aDk d, trivial⟩ ?_
  have hc := copyLists_spec fr d.sectors
  simp only [fL] at hc
  simp only [ac_20, TT, ↓reduceIte, Nat.reduceEqDiff, Nat.reduceAdd, Nat.reduceMul, reduceCtorEq, Nat.reduceLeDiff]
  refine ⟨_, hc _ h1 h2, ?_⟩
  simp only [TT, ↓reduceIte, Nat.reduceEqDiff, Nat.reduceAdd, Nat.reduceMul, reduceCtorEq, Nat.reduceLeDiff]
  refine AWc.family (L_of fr d) (fun i => i ≤ d.cache.length) (fun i => d.cache.length - i) 0 (Nat.zero_le _) ?_ ?_
  · refine Weak.trans (Weak.virtC 90 2 (l := [(1, .op 0 0), (2, .op 100000 0), (3, .op 600000 0), (4, .v (.int .i64 0))])
      (h := [(0, .row true 47 [fL fr d.sectors, fWrs fr d.cache]), (100000, .row true 50 [.v (.slice none 0 0), .v (.slice none 0 0)]), (600000, .row true 50 [fL true d.sectors, .os 900000 0 0 2])]) ?_ ?_) (Weak.calc [(0, 0), (100000, 1), (600000, 2), (900000, 3)] (by decide) ?_ ?_)
    all_goals simp [WT, eWrs_nil]
  · intro i hi
    by_cases hlt : i < d.cache.length
    · obtain ⟨w, hx, e1, e0⟩ := lt_at hlt
      have hti : (eWrs true (d.cache.take i)).length = i * 2 := by rw [len_Wrs, List.length_take_of_le hi]
      obtain ⟨g1, g2⟩ := get_Wrs (fr := fr) hx
      have hc := copyBytes_spec fr w.data
      simp only [fB] at hc
      simp only [L_of, e1, e0, g1, g2, Int.toNat_natCast, TT, ↓reduceIte, Nat.reduceEqDiff, Nat.reduceAdd, Nat.reduceMul, reduceCtorEq, Nat.reduceLeDiff]
      refine ⟨_, hc _ (h4 w (List.mem_of_getElem? hx)), ?_⟩
      simp only [hti, eWrs_snoc hx, TT, ↓reduceIte, Nat.reduceEqDiff, Nat.reduceAdd, Nat.reduceMul, reduceCtorEq, Nat.reduceLeDiff]
      rw [if_pos (by omega)]
      refine ⟨by rfl, ?_⟩
      refine famC_next (i + 1) (by omega) (by omega) ?_
      refine Weak.calc [(0, 0), (1, 1), (2, 2), (2200004, 3)] (by decide) ?_ ?_ <;> simp [WT, wrap64 (x := (i : Int) + 1) (by omega)]
    · obtain rfl : i = d.cache.length := by omega
      have e1 : ¬ ((d.cache.length : Int) < (d.cache.length : Int)) := by omega
      simp only [L_of, e1, List.take_length, TT, ↓reduceIte, Nat.reduceEqDiff, Nat.reduceAdd, Nat.reduceMul, reduceCtorEq, Nat.reduceLeDiff]
      refine Ends.weak (Weak.freezeC 3 rfl (l := [(2, .op 1 0)]) (h := [(1, .row true 50 [fL true d.sectors, fWrs true d.cache])]) ?_ ?_) (Ends.data (r := aDk true d) (.inr rfl) (by simp [ET, aDk]) (al_aDk _))
      · simp [WT]
      · simp [WT]
end Go.Proofs.YtdenddhdeloceaaGreatDoor
/- Contract: are two disks one? -/
namespace Go.Proofs.YtdenddhdeloceaaGreatDoor
open Go.RowKit
set_option maxRecDepth 100000
theorem Wr.ext2 {a b : Wr} : a = b ↔ a.sec = b.sec ∧ a.data = b.data := by
  constructor
  · rintro rfl; exact ⟨rfl, rfl⟩
  · rintro ⟨h1, h2⟩; cases a; cases b; simp only at h1 h2; subst h1; subst h2; rfl
theorem Dk.ext2 {a b : Dk} : a = b ↔ a.sectors = b.sectors ∧ a.cache = b.cache := by
  constructor
  · rintro rfl; exact ⟨rfl, rfl⟩
  · rintro ⟨h1, h2⟩; cases a; cases b; simp only at h1 h2; subst h1; subst h2; rfl
instance : DecidableEq Wr := fun a b => decidable_of_iff _ Wr.ext2.symm
instance : DecidableEq Dk := fun a b => decidable_of_iff _ Dk.ext2.symm
abbrev L_ak (fa fb : Bool) (a b : Dk) (k : Nat) : ASt := ⟨envOf [(2, .op 0 0), (3, .op 1 0), (5, .v (.int .i64 k))],
  heapOf [(0, .row true 50 [fL fa a.sectors, fWrs fa a.cache]), (1, .row true 47 [fL fb b.sectors, fWrs fb b.cache])], 2⟩
set_option maxHeartbeats 2000000 in
theorem alike_spec (fa fb : Bool) (a b : Dk) (nb : Nat) (h1 : a.sectors.length ≤ 140737488355328) (h2 : ∀ t ∈ a.sectors, t.length ≤ 140737488355328) (h3 : a.cache.length ≤ 140737488355328) (h4 : ∀ w ∈ a.cache, w.data.length ≤ 140737488355328) :
    ASound Tryz.prog 25 [aDk fa a, aDk fb b] nb (.ret (.v (.int .i64 (if a = b then 0 else 1))) []) := by
  refine ok_25.sound (by simp) ⟨al_aDk a, al_aDk b, trivial⟩ ?_
  have hs := sameLists_spec fa fb a.sectors b.sectors
  simp only [fL] at hs
  simp only [ac_25, TT, ↓reduceIte, Nat.reduceEqDiff, Nat.reduceAdd, Nat.reduceMul, reduceCtorEq, Nat.reduceLeDiff]
  refine ⟨_, hs _ h1 h2, ?_⟩
  by_cases hse : a.sectors = b.sectors
  · by_cases hl : a.cache.length = b.cache.length
    · have hl' : (a.cache.length : Int) = (b.cache.length : Int) := by omega
      simp only [hse, decide_true, Bool.not_true, hl', not_true_eq_false, decide_false, TT, ↓reduceIte, Nat.reduceEqDiff, Nat.reduceAdd, Nat.reduceMul, reduceCtorEq, Nat.reduceLeDiff]
      refine AWc.family (L_ak fa fb a b) (fun k => k ≤ a.cache.length ∧ ∀ j, j < k → a.cache[j]? = b.cache[j]?) (fun k => a.cache.length - k) 0 ⟨Nat.zero_le _, fun j h => absurd h (Nat.not_lt_zero _)⟩ ?_ ?_
      · refine Weak.calc [(0, 0), (100000, 1)] (by decide) ?_ ?_ <;> simp [WT, hse]
      · rintro k ⟨hk, hj⟩
        by_cases hlt : k < a.cache.length
        · obtain ⟨x, hx, e1, e0⟩ := lt_at hlt
          obtain ⟨y, hy, e2, _⟩ := lt_at (show k < b.cache.length by omega)
          obtain ⟨g1, g2⟩ := get_Wrs (fr := fa) hx
          obtain ⟨g3, g4⟩ := get_Wrs (fr := fb) hy
          have hsb := sameBytes_spec fa fb x.data y.data
          simp only [fB] at hsb
          by_cases hxs : x.sec = y.sec
          · simp only [L_ak, g1, g2, g3, g4, e1, e0, e2, hxs, not_true_eq_false, decide_false, Int.toNat_natCast, TT, ↓reduceIte, Nat.reduceEqDiff, Nat.reduceAdd, Nat.reduceMul, reduceCtorEq, Nat.reduceLeDiff]
            refine ⟨_, hsb _ (h4 x (List.mem_of_getElem? hx)), ?_⟩
            by_cases hxy : x.data = y.data
            · simp only [hxy, decide_true, Bool.not_true, TT, ↓reduceIte, Nat.reduceEqDiff, Nat.reduceAdd, Nat.reduceMul, reduceCtorEq, Nat.reduceLeDiff]
              refine ⟨by rfl, ?_⟩
              refine famC_next (k + 1) (by omega) ⟨by omega, fun j hj1 => ?_⟩ ?_
              · by_cases e : j = k
                · subst e; rw [hx, hy, Wr.ext2.2 ⟨hxs, hxy⟩]
                · exact hj j (by omega)
              · refine Weak.calc [(0, 0), (1, 1)] (by decide) ?_ ?_ <;> simp [WT, wrap64 (x := (k : Int) + 1) (by omega)]
            · simp only [hxy, decide_false, Bool.not_false, TT, ↓reduceIte, Nat.reduceEqDiff, Nat.reduceAdd, Nat.reduceMul, reduceCtorEq, Nat.reduceLeDiff]
              refine ⟨by rfl, ?_⟩
              have : ¬ a = b := by intro h; subst h; rw [hx] at hy; cases hy; exact hxy rfl
              exact Ends.data (.inr rfl) (by simp [this, ET]) trivial
          · simp only [L_ak, g1, g2, g3, g4, e1, e0, e2, hxs, not_false_eq_true, decide_true, Int.toNat_natCast, TT, ↓reduceIte, Nat.reduceEqDiff, Nat.reduceAdd, Nat.reduceMul, reduceCtorEq, Nat.reduceLeDiff]
            refine ⟨by rfl, ?_⟩
            have : ¬ a = b := by intro h; subst h; rw [hx] at hy; cases hy; exact hxs rfl
            exact Ends.data (.inr rfl) (by simp [this, ET]) trivial
        · have e1 : ¬ ((k : Int) < (a.cache.length : Int)) := by omega
          simp only [L_ak, e1, TT, ↓reduceIte, Nat.reduceEqDiff, Nat.reduceAdd, Nat.reduceMul, reduceCtorEq, Nat.reduceLeDiff]
          have : a = b := Dk.ext2.2 ⟨hse, eq_upto hl fun j h => hj j (by omega)⟩
          exact Ends.data (.inr rfl) (by simp [this, ET]) trivial
    · have hl' : ¬ (a.cache.length : Int) = (b.cache.length : Int) := by omega
      simp only [hse, decide_true, Bool.not_true, hl', not_false_eq_true, TT, ↓reduceIte, Nat.reduceEqDiff, Nat.reduceAdd, Nat.reduceMul, reduceCtorEq, Nat.reduceLeDiff]
      have : ¬ a = b := fun h => hl (by rw [h])
      exact Ends.data (.inr rfl) (by simp [this, ET]) trivial
  · simp only [hse, decide_false, Bool.not_false, TT, ↓reduceIte, Nat.reduceEqDiff, Nat.reduceAdd, Nat.reduceMul, reduceCtorEq, Nat.reduceLeDiff]
    have : ¬ a = b := fun h => hse (by rw [h])
    exact Ends.data (.inr rfl) (by simp [this, ET]) trivial
end Go.Proofs.YtdenddhdeloceaaGreatDoor
/- Contracts: the document's disk: may a state be; its own copy. -/
namespace Go.Proofs.YtdenddhdeloceaaGreatDoor
open Go.RowKit
set_option maxRecDepth 100000
def badW (n : Nat) (w : Wr) : Prop := w.sec < 0 ∨ (n : Int) ≤ w.sec ∨ w.data.length ≠ 64
structure okD (d : Dk) : Prop where
  few : ¬ (d.sectors.length < 1 ∨ 2048 < d.sectors.length ∨ 4096 < d.cache.length)
  secs : ∀ s ∈ d.sectors, s.length = 64
  cache : ∀ w ∈ d.cache, ¬ badW d.sectors.length w
noncomputable def dkE (d : Dk) : Int := by classical exact if okD d then 0 else 9
theorem dkE_ok {d : Dk} (h : okD d) : dkE d = 0 := by unfold dkE; rw [if_pos h]
theorem dkE_no {d : Dk} (h : ¬ okD d) : dkE d = 9 := by unfold dkE; rw [if_neg h]
abbrev L_k1 (fr : Bool) (d : Dk) (i : Nat) : ASt := ⟨envOf [(1, .op 0 0), (3, .v (.int .i64 i))], heapOf [(0, .row true 47 [fL fr d.sectors, fWrs fr d.cache])], 1⟩
abbrev L_k2 (fr : Bool) (d : Dk) (i : Nat) : ASt := ⟨envOf [(1, .op 0 0), (4, .v (.int .i64 i))], heapOf [(0, .row true 47 [fL fr d.sectors, fWrs fr d.cache])], 1⟩
set_option maxHeartbeats 2000000 in
theorem rdcheck_spec (fr : Bool) (d : Dk) (nb : Nat) : ASound Tryz.prog 54 [aDk fr d] nb (.ret (.v (.int .i64 (dkE d))) []) := by
  refine ok_54.sound (by simp) ⟨al_aDk d, trivial⟩ ?_
  by_cases h1 : d.sectors.length < 1
  · have f1 : (d.sectors.length : Int) < 1 := by omega
    rw [dkE_no fun h => h.few (.inl h1)]
    simp only [ac_54, f1, TT, ↓reduceIte, Nat.reduceEqDiff, Nat.reduceAdd, Nat.reduceMul, reduceCtorEq, Nat.reduceLeDiff]
    exact Ends.data (.inr rfl) (by simp [ET]) trivial
  have f1 : ¬ (d.sectors.length : Int) < 1 := by omega
  by_cases h2 : 2048 < d.sectors.length
  · have f2 : (2048 : Int) < (d.sectors.length : Int) := by omega
    rw [dkE_no fun h => h.few (.inr (.inl h2))]
    simp only [ac_54, f1, f2, TT, ↓reduceIte, Nat.reduceEqDiff, Nat.reduceAdd, Nat.reduceMul, reduceCtorEq, Nat.reduceLeDiff]
    exact Ends.data (.inr rfl) (by simp [ET]) trivial
  have f2 : ¬ (2048 : Int) < (d.sectors.length : Int) := by omega
  by_cases h3 : 4096 < d.cache.length
  · have f3 : (4096 : Int) < (d.cache.length : Int) := by omega
    rw [dkE_no fun h => h.few (.inr (.inr h3))]
    simp only [ac_54, f1, f2, f3, TT, ↓reduceIte, Nat.reduceEqDiff, Nat.reduceAdd, Nat.reduceMul, reduceCtorEq, Nat.reduceLeDiff]
    exact Ends.data (.inr rfl) (by simp [ET]) trivial
  have f3 : ¬ (4096 : Int) < (d.cache.length : Int) := by omega
  simp only [ac_54, f1, f2, f3, TT, ↓reduceIte, Nat.reduceEqDiff, Nat.reduceAdd, Nat.reduceMul, reduceCtorEq, Nat.reduceLeDiff]
  refine AWc.family (L_k1 fr d) (fun i => i ≤ d.sectors.length ∧ ∀ t ∈ d.sectors.take i, t.length = 64) (fun i => d.sectors.length - i) 0 ⟨Nat.zero_le _, by simp⟩ ?_ ?_
  · refine Weak.calc [(0, 0)] (by decide) ?_ ?_ <;> simp [WT]
  · rintro i ⟨hi, ha⟩
    by_cases hlt : i < d.sectors.length
    · obtain ⟨t, ht, e1, e0⟩ := lt_at hlt
      by_cases hl : t.length = 64
      · have e5 : (t.length : Int) = 64 := by omega
        simp only [L_k1, e1, e0, get_L ht, e5, not_true_eq_false, TT, ↓reduceIte, Nat.reduceEqDiff, Nat.reduceAdd, Nat.reduceMul, reduceCtorEq, Nat.reduceLeDiff]
        refine famC_next (i + 1) (by omega) ⟨by omega, take_all (p := fun t => t.length = 64) ha ht hl⟩ ?_
        refine Weak.calc [(0, 0)] (by decide) ?_ ?_ <;> simp [WT, wrap64 (x := (i : Int) + 1) (by omega)]
      · have e5 : ¬ (t.length : Int) = 64 := by omega
        rw [dkE_no fun h => hl (h.secs t (List.mem_of_getElem? ht))]
        simp only [L_k1, e1, e0, get_L ht, e5, not_false_eq_true, TT, ↓reduceIte, Nat.reduceEqDiff, Nat.reduceAdd, Nat.reduceMul, reduceCtorEq, Nat.reduceLeDiff]
        exact Ends.data (.inr rfl) (by simp [ET]) trivial
    · obtain rfl : i = d.sectors.length := by omega
      have e1 : ¬ ((d.sectors.length : Int) < (d.sectors.length : Int)) := by omega
      rw [List.take_length] at ha
      simp only [L_k1, e1, TT, ↓reduceIte, Nat.reduceEqDiff, Nat.reduceAdd, Nat.reduceMul, reduceCtorEq, Nat.reduceLeDiff]
      refine AWc.family (L_k2 fr d) (fun i => i ≤ d.cache.length ∧ ∀ w ∈ d.cache.take i, ¬ badW d.sectors.length w) (fun i => d.cache.length - i) 0 ⟨Nat.zero_le _, by simp⟩ ?_ ?_
      · refine Weak.calc [(0, 0)] (by decide) ?_ ?_ <;> simp [WT]
      · rintro j ⟨hj, hc⟩
        by_cases hlt : j < d.cache.length
        · obtain ⟨w, hw, e1, e0⟩ := lt_at hlt
          obtain ⟨g1, g2⟩ := get_Wrs (fr := fr) hw
          by_cases b1 : w.sec < 0
          · rw [dkE_no fun h => h.cache w (List.mem_of_getElem? hw) (.inl b1)]
            simp only [L_k2, e1, e0, g1, g2, b1, Int.toNat_natCast, TT, ↓reduceIte, Nat.reduceEqDiff, Nat.reduceAdd, Nat.reduceMul, reduceCtorEq, Nat.reduceLeDiff]
            exact Ends.data (.inr rfl) (by simp [ET]) trivial
          by_cases b2 : (d.sectors.length : Int) ≤ w.sec
          · rw [dkE_no fun h => h.cache w (List.mem_of_getElem? hw) (.inr (.inl b2))]
            simp only [L_k2, e1, e0, g1, g2, b1, b2, Int.toNat_natCast, TT, ↓reduceIte, Nat.reduceEqDiff, Nat.reduceAdd, Nat.reduceMul, reduceCtorEq, Nat.reduceLeDiff]
            exact Ends.data (.inr rfl) (by simp [ET]) trivial
          by_cases b3 : w.data.length = 64
          · have e5 : (w.data.length : Int) = 64 := by omega
            simp only [L_k2, e1, e0, g1, g2, b1, b2, e5, Int.toNat_natCast, not_true_eq_false, not_false_eq_true, TT, ↓reduceIte, Nat.reduceEqDiff, Nat.reduceAdd, Nat.reduceMul, reduceCtorEq, Nat.reduceLeDiff]
            refine famC_next (j + 1) (by omega) ⟨by omega, take_all hc hw (by rintro (h | h | h); exact b1 h; exact b2 h; exact h b3)⟩ ?_
            refine Weak.calc [(0, 0)] (by decide) ?_ ?_ <;> simp [WT, wrap64 (x := (j : Int) + 1) (by omega)]
          · have e5 : ¬ (w.data.length : Int) = 64 := by omega
            rw [dkE_no fun h => h.cache w (List.mem_of_getElem? hw) (.inr (.inr b3))]
            simp only [L_k2, e1, e0, g1, g2, b1, b2, e5, Int.toNat_natCast, not_false_eq_true, TT, ↓reduceIte, Nat.reduceEqDiff, Nat.reduceAdd, Nat.reduceMul, reduceCtorEq, Nat.reduceLeDiff]
            exact Ends.data (.inr rfl) (by simp [ET]) trivial
        · obtain rfl : j = d.cache.length := by omega
          have e1 : ¬ ((d.cache.length : Int) < (d.cache.length : Int)) := by omega
          rw [List.take_length] at hc
          rw [dkE_ok ⟨by omega, ha, hc⟩]
          simp only [L_k2, e1, TT, ↓reduceIte, Nat.reduceEqDiff, Nat.reduceAdd, Nat.reduceMul, reduceCtorEq, Nat.reduceLeDiff]
          exact Ends.data (.inr rfl) (by simp [ET]) trivial
end Go.Proofs.YtdenddhdeloceaaGreatDoor
/- Contracts: the document's disk: its own copy, a sector's octets, what was put last. -/
namespace Go.Proofs.YtdenddhdeloceaaGreatDoor
open Go.RowKit
set_option maxRecDepth 100000
abbrev zD : AObj := .row true 47 [.v (.slice none 0 0), .v (.slice none 0 0)]
abbrev L_o1 (fr : Bool) (d : Dk) (i : Nat) : ASt := ⟨envOf [(1, .op 0 0), (2, .op 1 0), (3, .op 2 0), (4, .v (.int .i64 i))],
  heapOf [(0, .row true 47 [fL fr d.sectors, fWrs fr d.cache]), (1, zD), (2, .row true 47 [.os 3 0 i 1, .v (.slice none 0 0)]), (3, .row true 22 (eL true (d.sectors.take i)))], 4⟩
abbrev L_o2 (fr : Bool) (d : Dk) (i : Nat) : ASt := ⟨envOf [(1, .op 0 0), (2, .op 1 0), (3, .op 2 0), (5, .v (.int .i64 i))],
  heapOf [(0, .row true 47 [fL fr d.sectors, fWrs fr d.cache]), (1, zD), (2, .row true 47 [.os 3 0 d.sectors.length 1, .os 4 0 i 2]), (3, .row true 22 (eL true d.sectors)), (4, .row true 89 (eWrs true (d.cache.take i)))], 5⟩
set_option maxHeartbeats 2000000 in
theorem rown_spec (fr : Bool) (d : Dk) (nb : Nat) (h1 : d.sectors.length ≤ 5864062014805) (h2 : ∀ t ∈ d.sectors, t.length ≤ 140737488355328) (h3 : d.cache.length ≤ 4398046511104) (h4 : ∀ w ∈ d.cache, w.data.length ≤ 140737488355328) : ASound Tryz.prog 55 [aDk fr d] nb (.ret (aDk true d) []) := by
  refine ok_55.sound (by simp) ⟨al_aDk d, trivial⟩ ?_
  simp only [ac_55, TT, ↓reduceIte, Nat.reduceEqDiff, Nat.reduceAdd, Nat.reduceMul, reduceCtorEq, Nat.reduceLeDiff]
  refine AWc.family (L_o1 fr d) (fun i => i ≤ d.sectors.length) (fun i => d.sectors.length - i) 0 (Nat.zero_le _) ?_ ?_
  · refine Weak.trans (Weak.virtC 22 1 (l := [(1, .op 0 0), (2, .op 100000 0), (3, .op 200000 0), (4, .v (.int .i64 0))])
      (h := [(0, .row true 47 [fL fr d.sectors, fWrs fr d.cache]), (100000, zD), (200000, .row true 47 [.os 400000 0 0 1, .v (.slice none 0 0)])]) ?_ ?_) (Weak.calc [(0, 0), (100000, 1), (200000, 2), (400000, 3)] (by decide) ?_ ?_)
    all_goals simp [WT, eL_nil]
  · intro i hi
    by_cases hlt : i < d.sectors.length
    · obtain ⟨t, hx, e1, e0⟩ := lt_at hlt
      have hti : (d.sectors.take i).length = i := List.length_take_of_le hi
      have hcs : eL true (d.sectors.take i) ++ [AV.fs true (eB t) t.length] = eL true (d.sectors.take (i + 1)) := by rw [take_snoc hx, app_L]; rfl
      have hc := copied_specF fr t
      simp only [fB] at hc
      simp only [L_o1, e1, e0, get_L hx, TT, ↓reduceIte, Nat.reduceEqDiff, Nat.reduceAdd, Nat.reduceMul, reduceCtorEq, Nat.reduceLeDiff]
      refine ⟨_, hc _ (h2 t (List.mem_of_getElem? hx)), ?_⟩
      simp only [len_L, hti, hcs, TT, ↓reduceIte, Nat.reduceEqDiff, Nat.reduceAdd, Nat.reduceMul, reduceCtorEq, Nat.reduceLeDiff]
      rw [if_pos (by omega)]
      refine ⟨by rfl, ?_⟩
      refine famC_next (i + 1) (by omega) (by omega) ?_
      refine Weak.calc [(0, 0), (1, 1), (2, 2), (1400004, 3)] (by decide) ?_ ?_ <;> simp [WT, wrap64 (x := (i : Int) + 1) (by omega)]
    · obtain rfl : i = d.sectors.length := by omega
      have e1 : ¬ ((d.sectors.length : Int) < (d.sectors.length : Int)) := by omega
      simp only [L_o1, e1, List.take_length, TT, ↓reduceIte, Nat.reduceEqDiff, Nat.reduceAdd, Nat.reduceMul, reduceCtorEq, Nat.reduceLeDiff]
      refine AWc.family (L_o2 fr d) (fun i => i ≤ d.cache.length) (fun i => d.cache.length - i) 0 (Nat.zero_le _) ?_ ?_
      · refine Weak.trans (Weak.virtC 89 2 (l := [(1, .op 0 0), (2, .op 1 0), (3, .op 2 0), (5, .v (.int .i64 0))])
          (h := [(0, .row true 47 [fL fr d.sectors, fWrs fr d.cache]), (1, zD), (2, .row true 47 [.os 3 0 d.sectors.length 1, .os 600004 0 0 2]), (3, .row true 22 (eL true d.sectors))]) ?_ ?_) (Weak.calc [(0, 0), (1, 1), (2, 2), (3, 3), (600004, 4)] (by decide) ?_ ?_)
        all_goals simp [WT, eWrs_nil]
      · intro i hi
        by_cases hlt : i < d.cache.length
        · obtain ⟨w, hx, e1, e0⟩ := lt_at hlt
          have hti : (eWrs true (d.cache.take i)).length = i * 2 := by rw [len_Wrs, List.length_take_of_le hi]
          obtain ⟨g1, g2⟩ := get_Wrs (fr := fr) hx
          have hc := copied_specF fr w.data
          simp only [fB] at hc
          simp only [L_o2, e1, e0, g1, g2, Int.toNat_natCast, TT, ↓reduceIte, Nat.reduceEqDiff, Nat.reduceAdd, Nat.reduceMul, reduceCtorEq, Nat.reduceLeDiff]
          refine ⟨_, hc _ (h4 w (List.mem_of_getElem? hx)), ?_⟩
          simp only [hti, eWrs_snoc hx, TT, ↓reduceIte, Nat.reduceEqDiff, Nat.reduceAdd, Nat.reduceMul, reduceCtorEq, Nat.reduceLeDiff]
          rw [if_pos (by omega)]
          refine ⟨by rfl, ?_⟩
          refine famC_next (i + 1) (by omega) (by omega) ?_
          refine Weak.calc [(0, 0), (1, 1), (2, 2), (3, 3), (2200005, 4)] (by decide) ?_ ?_ <;> simp [WT, wrap64 (x := (i : Int) + 1) (by omega)]
        · obtain rfl : i = d.cache.length := by omega
          have e1 : ¬ ((d.cache.length : Int) < (d.cache.length : Int)) := by omega
          simp only [L_o2, e1, List.take_length, TT, ↓reduceIte, Nat.reduceEqDiff, Nat.reduceAdd, Nat.reduceMul, reduceCtorEq, Nat.reduceLeDiff]
          refine Ends.weak (Weak.freezeC 3 rfl (l := [(2, .op 1 0)]) (h := [(1, .row true 47 [fL true d.sectors, .os 4 0 d.cache.length 2]), (4, .row true 89 (eWrs true d.cache))]) ?_ ?_) ?_
          · simp [WT]
          · simp [WT]
          refine Ends.weak (Weak.freezeC 4 rfl (l := [(2, .op 1 0)]) (h := [(1, .row true 47 [fL true d.sectors, fWrs true d.cache])]) ?_ ?_) (Ends.data (r := aDk true d) (.inr rfl) (by simp [ET, aDk]) (al_aDk _))
          · simp [WT]
          · simp [WT]
end Go.Proofs.YtdenddhdeloceaaGreatDoor
/- Contracts: the document's disk: a sector's octets, what was put last. -/
namespace Go.Proofs.YtdenddhdeloceaaGreatDoor
open Go.RowKit
set_option maxRecDepth 100000
def padI (b : List Int) (i : Nat) : List Int := b.take i ++ List.replicate (64 - i) 0
theorem padI_set {b : List Int} {i : Nat} {x : Int} (h : b[i]? = some x) (h2 : b.length ≤ 64) : (padI b i).set i x = padI b (i + 1) := by
  have hi : i < b.length := (List.getElem?_eq_some_iff.1 h).1
  have hl : (b.take i).length = i := List.length_take_of_le (by omega)
  unfold padI
  rw [List.set_append, if_neg (by omega), hl, Nat.sub_self, show 64 - i = (64 - (i + 1)) + 1 from by omega, List.replicate_succ, List.set_cons_zero, take_snoc h]
  simp
theorem padI_len {b : List Int} {i : Nat} (h : i ≤ b.length) (h2 : b.length ≤ 64) : (padI b i).length = 64 := by
  unfold padI; rw [List.length_append, List.length_replicate, List.length_take_of_le h]; omega
theorem padI_all (b : List Int) : padI b b.length = pad 64 b := by unfold padI pad; rw [List.take_length]
abbrev L_pad (fr : Bool) (b : List Int) (i : Nat) : ASt := ⟨envOf [(0, fB fr b), (3, .os 0 0 64 1), (4, .v (.int .i64 i))], heapOf [(0, .row true 5 (eB (padI b i)))], 1⟩
theorem padded_spec (fr : Bool) (b : List Int) (nb : Nat) (h : b.length ≤ 64) : ASound Tryz.prog 56 [fB fr b] nb (.ret (fB true (pad 64 b)) []) := by
  refine ok_56.sound (by simp) ⟨al_fB b, trivial⟩ ?_
  have t6 : Int.toNat 64 = 64 := rfl
  simp only [ac_56, t6, rep_B, TT, ↓reduceIte, Nat.reduceEqDiff, Nat.reduceAdd, Nat.reduceMul, reduceCtorEq, Nat.reduceLeDiff]
  rw [if_pos (by decide)]
  refine AWc.family (L_pad fr b) (fun i => i ≤ b.length) (fun i => b.length - i) 0 (Nat.zero_le _) ?_ ?_
  · refine Weak.calc [(100000, 0)] (by decide) ?_ ?_ <;> simp [WT, padI]
  · intro i hi
    by_cases hlt : i < b.length
    · obtain ⟨x, hx, e1, e0⟩ := lt_at hlt
      have c1 : ((0 : Int) ≤ (i : Int) ∧ (i : Int) < ((64 : Nat) : Int)) = True := eq_true ⟨by omega, by omega⟩
      have e6 : (i : Int) < ((64 : Nat) : Int) := by omega
      have hln : (padI b i).length = 64 := padI_len hi h
      simp only [L_pad, e1, e0, e6, get_B hx, c1, Int.toNat_natCast, set_B, padI_set hx h, len_B, hln, Nat.zero_add, TT, ↓reduceIte, Nat.reduceEqDiff, Nat.reduceAdd, Nat.reduceMul, reduceCtorEq, Nat.reduceLeDiff]
      rw [if_pos (by omega)]
      refine famC_next (i + 1) (by omega) (by omega) ?_
      refine Weak.calc [(0, 0)] (by decide) ?_ ?_ <;> simp [WT, wrap64 (x := (i : Int) + 1) (by omega)]
    · obtain rfl : i = b.length := by omega
      have e1 : ¬ ((b.length : Int) < (b.length : Int)) := by omega
      have hln : (pad 64 b).length = 64 := pad_len h
      have htk : (eB (pad 64 b)).take 64 = eB (pad 64 b) := List.take_of_length_le (by rw [len_B, hln]; exact Nat.le_refl _)
      simp only [L_pad, e1, padI_all, TT, ↓reduceIte, Nat.reduceEqDiff, Nat.reduceAdd, Nat.reduceMul, reduceCtorEq, Nat.reduceLeDiff]
      refine Ends.weak (Weak.freezeC 0 rfl (l := [(2, fB true (pad 64 b))]) (h := []) ?_ ?_) (Ends.data (.inr rfl) (by simp [ET, fB]) (al_fB _))
      · simp [WT, hln, htk]
      · simp [WT]
def lastB (base : List Int) (k : Int) (l : List Wr) : List Int := l.foldl (fun b w => if w.sec = k then w.data else b) base
theorem lastB_snoc {base : List Int} {k : Int} {l : List Wr} {i : Nat} {w : Wr} (h : l[i]? = some w) : lastB base k (l.take (i + 1)) = if w.sec = k then w.data else lastB base k (l.take i) := by
  rw [take_snoc h]; simp [lastB]
theorem lastB_p {p : List Int → Prop} {base : List Int} {k : Int} : ∀ {l : List Wr}, p base → (∀ w ∈ l, p w.data) → p (lastB base k l)
  | [], h, _ => h
  | w :: l, h, hw => by
    show p (lastB (if w.sec = k then w.data else base) k l)
    refine lastB_p ?_ fun x hx => hw x (by simp [hx])
    split
    · exact hw w (by simp)
    · exact h
abbrev L_last (fr : Bool) (d : Dk) (k : Int) (base : List Int) (i : Nat) : ASt := ⟨envOf [(1, .v (.int .i64 k)), (2, .op 0 0), (5, fB fr (lastB base k (d.cache.take i))), (6, .v (.int .i64 i))], heapOf [(0, .row true 47 [fL fr d.sectors, fWrs fr d.cache])], 1⟩
theorem rlast_spec (fr : Bool) (d : Dk) (k : Nat) (base : List Int) (nb : Nat) (hk : d.sectors[k]? = some base) (h2 : base.length ≤ 140737488355328) (h4 : ∀ w ∈ d.cache, w.data.length ≤ 140737488355328) (h3 : d.cache.length ≤ 4398046511104) :
    ASound Tryz.prog 82 [aDk fr d, .v (.int .i64 k)] nb (.ret (fB true (lastB base k d.cache)) []) := by
  refine ok_82.sound (by simp) ⟨al_aDk d, trivial, trivial⟩ ?_
  have hlt := (List.getElem?_eq_some_iff.1 hk).1
  have c1 : ((0 : Int) ≤ (k : Int) ∧ (k : Int) < (d.sectors.length : Int)) = True := eq_true ⟨by omega, by omega⟩
  simp only [ac_82, c1, Int.toNat_natCast, get_L hk, TT, ↓reduceIte, Nat.reduceEqDiff, Nat.reduceAdd, Nat.reduceMul, reduceCtorEq, Nat.reduceLeDiff]
  refine AWc.family (L_last fr d k base) (fun i => i ≤ d.cache.length) (fun i => d.cache.length - i) 0 (Nat.zero_le _) ?_ ?_
  · refine Weak.calc [(0, 0)] (by decide) ?_ ?_ <;> simp [WT, lastB]
  · intro i hi
    by_cases hlt : i < d.cache.length
    · obtain ⟨w, hx, e1, e0⟩ := lt_at hlt
      obtain ⟨g1, g2⟩ := get_Wrs (fr := fr) hx
      by_cases hs : w.sec = (k : Int)
      · simp only [L_last, e1, e0, g1, g2, hs, Int.toNat_natCast, TT, ↓reduceIte, Nat.reduceEqDiff, Nat.reduceAdd, Nat.reduceMul, reduceCtorEq, Nat.reduceLeDiff]
        refine famC_next (i + 1) (by omega) (by omega) ?_
        refine Weak.calc [(0, 0)] (by decide) ?_ ?_ <;> simp [WT, lastB_snoc hx, hs, wrap64 (x := (i : Int) + 1) (by omega)]
      · simp only [L_last, e1, e0, g1, g2, hs, Int.toNat_natCast, TT, ↓reduceIte, Nat.reduceEqDiff, Nat.reduceAdd, Nat.reduceMul, reduceCtorEq, Nat.reduceLeDiff]
        refine famC_next (i + 1) (by omega) (by omega) ?_
        refine Weak.calc [(0, 0)] (by decide) ?_ ?_ <;> simp [WT, lastB_snoc hx, hs, wrap64 (x := (i : Int) + 1) (by omega)]
    · obtain rfl : i = d.cache.length := by omega
      have e1 : ¬ ((d.cache.length : Int) < (d.cache.length : Int)) := by omega
      have hc := copied_specF fr (lastB base k d.cache)
      simp only [fB] at hc
      simp only [L_last, e1, List.take_length, TT, ↓reduceIte, Nat.reduceEqDiff, Nat.reduceAdd, Nat.reduceMul, reduceCtorEq, Nat.reduceLeDiff]
      refine ⟨_, hc _ (lastB_p (p := fun b => b.length ≤ 140737488355328) h2 h4), ?_⟩
      simp only [TT, ↓reduceIte, Nat.reduceEqDiff, Nat.reduceAdd, Nat.reduceMul, reduceCtorEq, Nat.reduceLeDiff]
      exact Ends.data (r := fB true (lastB base k d.cache)) (.inr rfl) (by simp [ET, fB]) (al_fB _)
end Go.Proofs.YtdenddhdeloceaaGreatDoor
/- Contracts: the document's disk: several sectors read. -/
namespace Go.Proofs.YtdenddhdeloceaaGreatDoor
open Go.RowKit
set_option maxRecDepth 100000
/-- what a sector has -/
def secAt (d : Dk) (k : Nat) : List Int := lastB ((d.sectors[k]?).getD []) k d.cache
def getD (d : Dk) (s n : Nat) : List Int := (List.range n).flatMap fun i => secAt d (s + i)
theorem getD_s (d : Dk) (s i : Nat) : getD d s (i + 1) = getD d s i ++ secAt d (s + i) := by simp [getD, List.range_succ]
theorem secAt_len {d : Dk} (h : okD d) {k : Nat} (hk : k < d.sectors.length) : (secAt d k).length = 64 := by
  unfold secAt
  rw [List.getElem?_eq_getElem hk]
  refine lastB_p (p := fun b => b.length = 64) (h.secs _ (List.getElem_mem hk)) fun w hw => ?_
  have := h.cache w hw
  unfold badW at this
  exact Classical.byContradiction fun h2 => this (.inr (.inr h2))
theorem getD_len {d : Dk} (h : okD d) (s : Nat) : ∀ i, s + i ≤ d.sectors.length → (getD d s i).length = 64 * i
  | 0, _ => by simp [getD]
  | i + 1, hi => by rw [getD_s, List.length_append, getD_len h s i (by omega), secAt_len h (by omega)]; omega
theorem okD_data {d : Dk} (h : okD d) : ∀ w ∈ d.cache, w.data.length ≤ 140737488355328 := fun w hw => by
  have := h.cache w hw
  unfold badW at this
  have : w.data.length = 64 := Classical.byContradiction fun h2 => this (.inr (.inr h2))
  omega
theorem okD_secs {d : Dk} (h : okD d) : ∀ t ∈ d.sectors, t.length ≤ 140737488355328 := fun t ht => by have := h.secs t ht; omega
theorem eB_nil : eB [] = [] := rfl
abbrev L_ga (fr : Bool) (d : Dk) (s n i : Nat) : ASt := ⟨envOf [(1, .v (.int .i64 s)), (2, .v (.int .i64 n)), (3, .op 0 0), (8, .os 1 0 (getD d s i).length 1), (9, .v (.int .i64 i))],
  heapOf [(0, .row true 47 [fL fr d.sectors, fWrs fr d.cache]), (1, .row true 5 (eB (getD d s i)))], 2⟩
set_option maxHeartbeats 1000000 in
theorem rgetAll_ok (fr : Bool) (d : Dk) (s n : Nat) (nb : Nat) (h : okD d) (hs : s + n ≤ d.sectors.length) :
    ASound Tryz.prog 47 [aDk fr d, .v (.int .i64 s), .v (.int .i64 n)] nb (.ret (.tup [fB true (getD d s n), .v (.int .i64 0)]) []) := by
  refine ok_47.sound (by simp) ⟨al_aDk d, trivial, trivial, trivial⟩ ?_
  have hc := rdcheck_spec fr d
  rw [dkE_ok h] at hc
  have hf := h.few
  simp only [aDk, fL, fWrs] at hc
  have f1 : ¬ ((s : Int) < 0) := by omega
  have f2 : ¬ ((n : Int) < 0) := by omega
  have f3 : ¬ ((d.sectors.length : Int) < (s : Int)) := by omega
  have w1 : IntKind.i64.wrap ((d.sectors.length : Int) - (s : Int)) = ((d.sectors.length - s : Nat) : Int) := by rw [wrap64 (by omega)]; omega
  have f4 : ¬ (((d.sectors.length - s : Nat) : Int) < (n : Int)) := by omega
  simp only [ac_47, TT, ↓reduceIte, Nat.reduceEqDiff, Nat.reduceAdd, Nat.reduceMul, reduceCtorEq, Nat.reduceLeDiff]
  refine ⟨_, hc _, ?_⟩
  simp only [f1, f2, f3, w1, f4, not_true_eq_false, TT, ↓reduceIte, Nat.reduceEqDiff, Nat.reduceAdd, Nat.reduceMul, reduceCtorEq, Nat.reduceLeDiff]
  refine AWc.family (L_ga fr d s n) (fun i => i ≤ n) (fun i => n - i) 0 (Nat.zero_le _) ?_ ?_
  · refine Weak.trans (Weak.virtC 5 1 (l := [(1, .v (.int .i64 s)), (2, .v (.int .i64 n)), (3, .op 0 0), (8, .os 3200000 0 0 1), (9, .v (.int .i64 0))])
      (h := [(0, .row true 47 [fL fr d.sectors, fWrs fr d.cache])]) ?_ ?_) (Weak.calc [(0, 0), (3200000, 1)] (by decide) ?_ ?_)
    all_goals simp [WT, show getD d s 0 = [] from rfl, eB_nil]
  · intro i hi
    by_cases hlt : i < n
    · have e1 : ((i : Int) < (n : Int)) := by omega
      have w2 : IntKind.i64.wrap ((s : Int) + (i : Int)) = ((s + i : Nat) : Int) := by rw [wrap64 (by omega)]; omega
      have hk : s + i < d.sectors.length := by omega
      have hl := rlast_spec fr d (s + i) (d.sectors[s + i])
      have hsa : lastB (d.sectors[s + i]) ((s + i : Nat) : Int) d.cache = secAt d (s + i) := by unfold secAt; rw [List.getElem?_eq_getElem hk]; rfl
      rw [hsa] at hl
      simp only [aDk, fB, fL, fWrs] at hl
      have hlen := getD_len h s i (by omega)
      have hsl := secAt_len h hk
      have hcs : eB (getD d s i) ++ eB (secAt d (s + i)) = eB (getD d s (i + 1)) := by rw [getD_s, app_B]
      have hn : (getD d s i).length + (secAt d (s + i)).length = (getD d s (i + 1)).length := by rw [getD_s, List.length_append]
      simp only [L_ga, e1, w2, TT, ↓reduceIte, Nat.reduceEqDiff, Nat.reduceAdd, Nat.reduceMul, reduceCtorEq, Nat.reduceLeDiff]
      refine ⟨_, hl _ (List.getElem?_eq_getElem hk) (by have := h.secs _ (List.getElem_mem hk); omega) (okD_data h) (by omega), ?_⟩
      simp only [len_B, hcs, hn, TT, ↓reduceIte, Nat.reduceEqDiff, Nat.reduceAdd, Nat.reduceMul, reduceCtorEq, Nat.reduceLeDiff]
      rw [if_pos (by omega)]
      refine famC_next (i + 1) (by omega) (by omega) ?_
      refine Weak.calc [(0, 0), (900002, 1)] (by decide) ?_ ?_ <;> simp [WT, wrap64 (x := (i : Int) + 1) (by omega)]
    · obtain rfl : i = n := by omega
      have e1 : ¬ ((i : Int) < (i : Int)) := by omega
      simp only [L_ga, e1, TT, ↓reduceIte, Nat.reduceEqDiff, Nat.reduceAdd, Nat.reduceMul, reduceCtorEq, Nat.reduceLeDiff]
      refine Ends.weak (Weak.freezeC 1 rfl (l := [(6, fB true (getD d s i)), (7, .v (.int .i64 0))]) (h := []) ?_ ?_) (Ends.data (.inr rfl) (by simp [ET, fB]) ⟨al_B _, trivial, trivial⟩)
      · simp [WT]
      · simp [WT]
end Go.Proofs.YtdenddhdeloceaaGreatDoor
/- Contracts: the document's disk: a crash, a flush. -/
namespace Go.Proofs.YtdenddhdeloceaaGreatDoor
open Go.RowKit
set_option maxRecDepth 100000
def eO (l : List Bool) : List AV := l.map fun b => .v (.bool b)
def fO (fr : Bool) (l : List Bool) : AV := .fs fr (eO l) l.length
theorem al_O {p : Nat → Prop} (l : List Bool) : AlL p (eO l) := AlL_map (e := fun b => AV.v (.bool b)) (fun _ => trivial) l
theorem ren_O {ρ : Nat → Nat} (l : List Bool) : renL ρ (eO l) = eO l := renL_id (p := fun _ => False) (fun _ h => h.elim) (al_O l)
theorem len_O (l : List Bool) : (eO l).length = l.length := by simp [eO]
theorem get_O {l : List Bool} {i : Nat} {x : Bool} (h : l[i]? = some x) : (eO l)[i]? = some (.v (.bool x)) := by simp [eO, h]
theorem tk_O (l : List Bool) : List.take l.length (eO l) = eO l := List.take_of_length_le (by rw [len_O]; exact Nat.le_refl _)
/-- the writes that are kept come to their sectors -/
def landL : List (List Int) → List (Bool × Wr) → List (List Int)
  | ss, [] => ss
  | ss, (k, w) :: r => landL (if k then ss.set w.sec.toNat w.data else ss) r
theorem landL_snoc : ∀ {l : List (Bool × Wr)} {ss : List (List Int)} {i : Nat} {q : Bool × Wr}, l[i]? = some q → landL ss (l.take (i + 1)) = if q.1 then (landL ss (l.take i)).set q.2.sec.toNat q.2.data else landL ss (l.take i)
  | [], _, _, _, h => by simp at h
  | (k, w) :: l, ss, 0, q, h => by
    simp at h; subst h
    simp [landL]
  | (k, w) :: l, ss, i + 1, q, h => by
    show landL _ (l.take (i + 1)) = _
    rw [landL_snoc (by simpa using h)]
    rfl
theorem landL_len : ∀ (l : List (Bool × Wr)) (ss : List (List Int)), (landL ss l).length = ss.length
  | [], _ => rfl
  | (k, w) :: l, ss => by
    rw [landL, landL_len l]
    split <;> simp
def crashD (d : Dk) (keep : List Bool) : Dk := ⟨landL d.sectors (keep.zip d.cache), []⟩
theorem set_L {fr : Bool} (l : List (List Int)) (k : Nat) (x : List Int) : (eL fr l).set k (.fs fr (eB x) x.length) = eL fr (l.set k x) := by simp [eL]
theorem zip_at {a : List Bool} {b : List Wr} {i : Nat} {x : Bool} {y : Wr} (h1 : a[i]? = some x) (h2 : b[i]? = some y) : (a.zip b)[i]? = some (x, y) := by
  rw [List.getElem?_zip_eq_some]; exact ⟨h1, h2⟩
abbrev L_cr (fk : Bool) (d : Dk) (keep : List Bool) (i : Nat) : ASt := ⟨envOf [(1, fO fk keep), (4, .op 0 0), (6, .op 1 0), (7, .v (.int .i64 i))],
  heapOf [(0, zD), (1, .row true 47 [.os 2 0 d.sectors.length 1, fWrs true d.cache]), (2, .row true 22 (eL true (landL d.sectors ((keep.zip d.cache).take i))))], 3⟩
end Go.Proofs.YtdenddhdeloceaaGreatDoor
/- Contracts: the document's own copy, a row of it still the caller's. -/
namespace Go.Proofs.YtdenddhdeloceaaGreatDoor
open Go.RowKit
set_option maxRecDepth 100000
set_option maxHeartbeats 2000000 in
theorem rown_secs (fr : Bool) (d : Dk) (nb : Nat) (h1 : d.sectors.length ≤ 5864062014805) (h2 : ∀ t ∈ d.sectors, t.length ≤ 140737488355328) (h3 : d.cache.length ≤ 4398046511104) (h4 : ∀ w ∈ d.cache, w.data.length ≤ 140737488355328) : ASound Tryz.prog 55 [aDk fr d] nb (.ret (.agg [.os nb 0 d.sectors.length 1, fWrs true d.cache]) [(nb, some (.row true 22 (eL true d.sectors)))]) := by
  refine ok_55.sound (by simp) ⟨al_aDk d, trivial⟩ ?_
  simp only [ac_55, TT, ↓reduceIte, Nat.reduceEqDiff, Nat.reduceAdd, Nat.reduceMul, reduceCtorEq, Nat.reduceLeDiff]
  refine AWc.family (L_o1 fr d) (fun i => i ≤ d.sectors.length) (fun i => d.sectors.length - i) 0 (Nat.zero_le _) ?_ ?_
  · refine Weak.trans (Weak.virtC 22 1 (l := [(1, .op 0 0), (2, .op 100000 0), (3, .op 200000 0), (4, .v (.int .i64 0))])
      (h := [(0, .row true 47 [fL fr d.sectors, fWrs fr d.cache]), (100000, zD), (200000, .row true 47 [.os 400000 0 0 1, .v (.slice none 0 0)])]) ?_ ?_) (Weak.calc [(0, 0), (100000, 1), (200000, 2), (400000, 3)] (by decide) ?_ ?_)
    all_goals simp [WT, eL_nil]
  · intro i hi
    by_cases hlt : i < d.sectors.length
    · obtain ⟨t, hx, e1, e0⟩ := lt_at hlt
      have hti : (d.sectors.take i).length = i := List.length_take_of_le hi
      have hcs : eL true (d.sectors.take i) ++ [AV.fs true (eB t) t.length] = eL true (d.sectors.take (i + 1)) := by rw [take_snoc hx, app_L]; rfl
      have hc := copied_specF fr t
      simp only [fB] at hc
      simp only [L_o1, e1, e0, get_L hx, TT, ↓reduceIte, Nat.reduceEqDiff, Nat.reduceAdd, Nat.reduceMul, reduceCtorEq, Nat.reduceLeDiff]
      refine ⟨_, hc _ (h2 t (List.mem_of_getElem? hx)), ?_⟩
      simp only [len_L, hti, hcs, TT, ↓reduceIte, Nat.reduceEqDiff, Nat.reduceAdd, Nat.reduceMul, reduceCtorEq, Nat.reduceLeDiff]
      rw [if_pos (by omega)]
      refine ⟨by rfl, ?_⟩
      refine famC_next (i + 1) (by omega) (by omega) ?_
      refine Weak.calc [(0, 0), (1, 1), (2, 2), (1400004, 3)] (by decide) ?_ ?_ <;> simp [WT, wrap64 (x := (i : Int) + 1) (by omega)]
    · obtain rfl : i = d.sectors.length := by omega
      have e1 : ¬ ((d.sectors.length : Int) < (d.sectors.length : Int)) := by omega
      simp only [L_o1, e1, List.take_length, TT, ↓reduceIte, Nat.reduceEqDiff, Nat.reduceAdd, Nat.reduceMul, reduceCtorEq, Nat.reduceLeDiff]
      refine AWc.family (L_o2 fr d) (fun i => i ≤ d.cache.length) (fun i => d.cache.length - i) 0 (Nat.zero_le _) ?_ ?_
      · refine Weak.trans (Weak.virtC 89 2 (l := [(1, .op 0 0), (2, .op 1 0), (3, .op 2 0), (5, .v (.int .i64 0))])
          (h := [(0, .row true 47 [fL fr d.sectors, fWrs fr d.cache]), (1, zD), (2, .row true 47 [.os 3 0 d.sectors.length 1, .os 600004 0 0 2]), (3, .row true 22 (eL true d.sectors))]) ?_ ?_) (Weak.calc [(0, 0), (1, 1), (2, 2), (3, 3), (600004, 4)] (by decide) ?_ ?_)
        all_goals simp [WT, eWrs_nil]
      · intro i hi
        by_cases hlt : i < d.cache.length
        · obtain ⟨w, hx, e1, e0⟩ := lt_at hlt
          have hti : (eWrs true (d.cache.take i)).length = i * 2 := by rw [len_Wrs, List.length_take_of_le hi]
          obtain ⟨g1, g2⟩ := get_Wrs (fr := fr) hx
          have hc := copied_specF fr w.data
          simp only [fB] at hc
          simp only [L_o2, e1, e0, g1, g2, Int.toNat_natCast, TT, ↓reduceIte, Nat.reduceEqDiff, Nat.reduceAdd, Nat.reduceMul, reduceCtorEq, Nat.reduceLeDiff]
          refine ⟨_, hc _ (h4 w (List.mem_of_getElem? hx)), ?_⟩
          simp only [hti, eWrs_snoc hx, TT, ↓reduceIte, Nat.reduceEqDiff, Nat.reduceAdd, Nat.reduceMul, reduceCtorEq, Nat.reduceLeDiff]
          rw [if_pos (by omega)]
          refine ⟨by rfl, ?_⟩
          refine famC_next (i + 1) (by omega) (by omega) ?_
          refine Weak.calc [(0, 0), (1, 1), (2, 2), (3, 3), (2200005, 4)] (by decide) ?_ ?_ <;> simp [WT, wrap64 (x := (i : Int) + 1) (by omega)]
        · obtain rfl : i = d.cache.length := by omega
          have e1 : ¬ ((d.cache.length : Int) < (d.cache.length : Int)) := by omega
          simp only [L_o2, e1, List.take_length, TT, ↓reduceIte, Nat.reduceEqDiff, Nat.reduceAdd, Nat.reduceMul, reduceCtorEq, Nat.reduceLeDiff]
          refine Ends.weak (Weak.freezeC 4 rfl (l := [(2, .op 1 0)]) (h := [(1, .row true 47 [.os 3 0 d.sectors.length 1, fWrs true d.cache]), (3, .row true 22 (eL true d.sectors))]) ?_ ?_) ?_
          · simp [WT]
          · simp [WT]
          exact Ends.rows1 (i := 3) (r0 := .agg [.os 3 0 d.sectors.length 1, fWrs true d.cache]) (.inr rfl) (by simp [ET]) rfl (al_L _) ⟨by simp [Al], al_fWrs _, trivial⟩ (by simp [ren, renL, rn, fWrs, ren_Wrs])
set_option maxHeartbeats 2000000 in
theorem rown_cache (fr : Bool) (d : Dk) (nb : Nat) (h1 : d.sectors.length ≤ 5864062014805) (h2 : ∀ t ∈ d.sectors, t.length ≤ 140737488355328) (h3 : d.cache.length ≤ 4398046511104) (h4 : ∀ w ∈ d.cache, w.data.length ≤ 140737488355328) : ASound Tryz.prog 55 [aDk fr d] nb (.ret (.agg [fL true d.sectors, .os nb 0 d.cache.length 2]) [(nb, some (.row true 89 (eWrs true d.cache)))]) := by
  refine ok_55.sound (by simp) ⟨al_aDk d, trivial⟩ ?_
  simp only [ac_55, TT, ↓reduceIte, Nat.reduceEqDiff, Nat.reduceAdd, Nat.reduceMul, reduceCtorEq, Nat.reduceLeDiff]
  refine AWc.family (L_o1 fr d) (fun i => i ≤ d.sectors.length) (fun i => d.sectors.length - i) 0 (Nat.zero_le _) ?_ ?_
  · refine Weak.trans (Weak.virtC 22 1 (l := [(1, .op 0 0), (2, .op 100000 0), (3, .op 200000 0), (4, .v (.int .i64 0))])
      (h := [(0, .row true 47 [fL fr d.sectors, fWrs fr d.cache]), (100000, zD), (200000, .row true 47 [.os 400000 0 0 1, .v (.slice none 0 0)])]) ?_ ?_) (Weak.calc [(0, 0), (100000, 1), (200000, 2), (400000, 3)] (by decide) ?_ ?_)
    all_goals simp [WT, eL_nil]
  · intro i hi
    by_cases hlt : i < d.sectors.length
    · obtain ⟨t, hx, e1, e0⟩ := lt_at hlt
      have hti : (d.sectors.take i).length = i := List.length_take_of_le hi
      have hcs : eL true (d.sectors.take i) ++ [AV.fs true (eB t) t.length] = eL true (d.sectors.take (i + 1)) := by rw [take_snoc hx, app_L]; rfl
      have hc := copied_specF fr t
      simp only [fB] at hc
      simp only [L_o1, e1, e0, get_L hx, TT, ↓reduceIte, Nat.reduceEqDiff, Nat.reduceAdd, Nat.reduceMul, reduceCtorEq, Nat.reduceLeDiff]
      refine ⟨_, hc _ (h2 t (List.mem_of_getElem? hx)), ?_⟩
      simp only [len_L, hti, hcs, TT, ↓reduceIte, Nat.reduceEqDiff, Nat.reduceAdd, Nat.reduceMul, reduceCtorEq, Nat.reduceLeDiff]
      rw [if_pos (by omega)]
      refine ⟨by rfl, ?_⟩
      refine famC_next (i + 1) (by omega) (by omega) ?_
      refine Weak.calc [(0, 0), (1, 1), (2, 2), (1400004, 3)] (by decide) ?_ ?_ <;> simp [WT, wrap64 (x := (i : Int) + 1) (by omega)]
    · obtain rfl : i = d.sectors.length := by omega
      have e1 : ¬ ((d.sectors.length : Int) < (d.sectors.length : Int)) := by omega
      simp only [L_o1, e1, List.take_length, TT, ↓reduceIte, Nat.reduceEqDiff, Nat.reduceAdd, Nat.reduceMul, reduceCtorEq, Nat.reduceLeDiff]
      refine AWc.family (L_o2 fr d) (fun i => i ≤ d.cache.length) (fun i => d.cache.length - i) 0 (Nat.zero_le _) ?_ ?_
      · refine Weak.trans (Weak.virtC 89 2 (l := [(1, .op 0 0), (2, .op 1 0), (3, .op 2 0), (5, .v (.int .i64 0))])
          (h := [(0, .row true 47 [fL fr d.sectors, fWrs fr d.cache]), (1, zD), (2, .row true 47 [.os 3 0 d.sectors.length 1, .os 600004 0 0 2]), (3, .row true 22 (eL true d.sectors))]) ?_ ?_) (Weak.calc [(0, 0), (1, 1), (2, 2), (3, 3), (600004, 4)] (by decide) ?_ ?_)
        all_goals simp [WT, eWrs_nil]
      · intro i hi
        by_cases hlt : i < d.cache.length
        · obtain ⟨w, hx, e1, e0⟩ := lt_at hlt
          have hti : (eWrs true (d.cache.take i)).length = i * 2 := by rw [len_Wrs, List.length_take_of_le hi]
          obtain ⟨g1, g2⟩ := get_Wrs (fr := fr) hx
          have hc := copied_specF fr w.data
          simp only [fB] at hc
          simp only [L_o2, e1, e0, g1, g2, Int.toNat_natCast, TT, ↓reduceIte, Nat.reduceEqDiff, Nat.reduceAdd, Nat.reduceMul, reduceCtorEq, Nat.reduceLeDiff]
          refine ⟨_, hc _ (h4 w (List.mem_of_getElem? hx)), ?_⟩
          simp only [hti, eWrs_snoc hx, TT, ↓reduceIte, Nat.reduceEqDiff, Nat.reduceAdd, Nat.reduceMul, reduceCtorEq, Nat.reduceLeDiff]
          rw [if_pos (by omega)]
          refine ⟨by rfl, ?_⟩
          refine famC_next (i + 1) (by omega) (by omega) ?_
          refine Weak.calc [(0, 0), (1, 1), (2, 2), (3, 3), (2200005, 4)] (by decide) ?_ ?_ <;> simp [WT, wrap64 (x := (i : Int) + 1) (by omega)]
        · obtain rfl : i = d.cache.length := by omega
          have e1 : ¬ ((d.cache.length : Int) < (d.cache.length : Int)) := by omega
          simp only [L_o2, e1, List.take_length, TT, ↓reduceIte, Nat.reduceEqDiff, Nat.reduceAdd, Nat.reduceMul, reduceCtorEq, Nat.reduceLeDiff]
          refine Ends.weak (Weak.freezeC 3 rfl (l := [(2, .op 1 0)]) (h := [(1, .row true 47 [fL true d.sectors, .os 4 0 d.cache.length 2]), (4, .row true 89 (eWrs true d.cache))]) ?_ ?_) ?_
          · simp [WT]
          · simp [WT]
          exact Ends.rows1 (i := 4) (r0 := .agg [fL true d.sectors, .os 4 0 d.cache.length 2]) (.inr rfl) (by simp [ET]) rfl (al_Wrs _) ⟨al_fL _, by simp [Al], trivial⟩ (by simp [ren, renL, rn, fL, ren_L])
end Go.Proofs.YtdenddhdeloceaaGreatDoor
/- Contracts: the document's disk: a crash. -/
namespace Go.Proofs.YtdenddhdeloceaaGreatDoor
open Go.RowKit
set_option maxRecDepth 100000
theorem zip_all {α β : Type} {a : List α} {b : List β} {i : Nat} (h : i = a.length ∨ i = b.length) : (a.zip b).take i = a.zip b ∨ i < (a.zip b).length := by
  by_cases hl : i < (a.zip b).length
  · exact .inr hl
  · exact .inl (List.take_of_length_le (by omega))
theorem imp_crash (ss : List (List Int)) : Imp (.tup [.agg [fL true ss, .v (.slice none 0 0)], .v (.int .i64 0)]) (.tup [aDk true ⟨ss, []⟩, .v (.int .i64 0)]) :=
  Imp.tupL ⟨Imp.aggL ⟨Imp.refl _, Imp.nil true, trivial⟩, Imp.refl _, trivial⟩
set_option maxHeartbeats 2000000 in
theorem rcrash_ok (fr fk : Bool) (d : Dk) (keep : List Bool) (nb : Nat) (h : okD d) (hk : keep.length ≤ 140737488355328) :
    ASound Tryz.prog 32 [aDk fr d, fO fk keep] nb (.ret (.tup [aDk true (crashD d keep), .v (.int .i64 0)]) []) := by
  refine ok_32.sound (by simp) ⟨al_aDk d, al_O keep, trivial⟩ ?_
  have hc := rdcheck_spec fr d
  rw [dkE_ok h] at hc
  have ho := rown_secs fr d
  have hf := h.few
  simp only [aDk, fL, fWrs] at hc ho
  simp only [ac_32, fO, TT, ↓reduceIte, Nat.reduceEqDiff, Nat.reduceAdd, Nat.reduceMul, reduceCtorEq, Nat.reduceLeDiff]
  refine ⟨_, hc _, ?_⟩
  simp only [not_true_eq_false, TT, ↓reduceIte, Nat.reduceEqDiff, Nat.reduceAdd, Nat.reduceMul, reduceCtorEq, Nat.reduceLeDiff]
  refine ⟨_, ho _ (by omega) (okD_secs h) (by omega) (okD_data h), ?_⟩
  simp only [TT, ↓reduceIte, Nat.reduceEqDiff, Nat.reduceAdd, Nat.reduceMul, reduceCtorEq, Nat.reduceLeDiff]
  refine AWc.family (L_cr fk d keep) (fun i => i ≤ d.cache.length ∧ i ≤ keep.length) (fun i => d.cache.length - i) 0 ⟨Nat.zero_le _, Nat.zero_le _⟩ ?_ ?_
  · refine Weak.calc [(100000, 0), (800000, 1), (700000, 2)] (by decide) ?_ ?_ <;> simp [WT, al_O, ren_O, fO, landL]
  · rintro i ⟨hi, hik⟩
    by_cases hlt : i < d.cache.length
    · obtain ⟨w, hw, e1, e0⟩ := lt_at hlt
      by_cases hlk : i < keep.length
      · obtain ⟨b, hb, e2, _⟩ := lt_at hlk
        obtain ⟨g1, g2⟩ := get_Wrs (fr := true) hw
        have hz := zip_at hb hw
        cases b with
        | false =>
          simp only [L_cr, fO, e1, e2, e0, get_O hb, TT, ↓reduceIte, Nat.reduceEqDiff, Nat.reduceAdd, Nat.reduceMul, reduceCtorEq, Nat.reduceLeDiff]
          refine famC_next (i + 1) (by omega) (by omega) ?_
          refine Weak.calc [(0, 0), (1, 1), (2, 2)] (by decide) ?_ ?_ <;> simp [WT, al_O, ren_O, fO, landL_snoc hz, wrap64 (x := (i : Int) + 1) (by omega)]
        | true =>
          have hbw := h.cache w (List.mem_of_getElem? hw)
          have s1 : 0 ≤ w.sec := Classical.byContradiction fun hx => hbw (.inl (by omega))
          have s2 : w.sec < (d.sectors.length : Int) := Classical.byContradiction fun hx => hbw (.inr (.inl (by omega)))
          have hlen : (landL d.sectors ((keep.zip d.cache).take i)).length = d.sectors.length := landL_len _ _
          have c1 : ((0 : Int) ≤ w.sec ∧ w.sec < (d.sectors.length : Int)) = True := eq_true ⟨s1, s2⟩
          have hcp := copied_specF true w.data
          simp only [fB] at hcp
          simp only [L_cr, fO, e1, e2, e0, get_O hb, g1, g2, c1, s1, s2, Int.toNat_natCast, TT, ↓reduceIte, Nat.reduceEqDiff, Nat.reduceAdd, Nat.reduceMul, reduceCtorEq, Nat.reduceLeDiff]
          refine ⟨_, hcp _ (okD_data h w (List.mem_of_getElem? hw)), ?_⟩
          simp only [c1, s1, s2, len_L, hlen, set_L, Nat.zero_add, TT, ↓reduceIte, Nat.reduceEqDiff, Nat.reduceAdd, Nat.reduceMul, reduceCtorEq, Nat.reduceLeDiff]
          rw [if_pos (by omega)]
          refine ⟨by rfl, ?_⟩
          refine famC_next (i + 1) (by omega) (by omega) ?_
          refine Weak.calc [(0, 0), (1, 1), (2, 2)] (by decide) ?_ ?_ <;> simp [WT, al_O, ren_O, fO, landL_snoc hz, wrap64 (x := (i : Int) + 1) (by omega)]
      · have e2 : ¬ ((i : Int) < (keep.length : Int)) := by omega
        have ht : (keep.zip d.cache).take i = keep.zip d.cache := List.take_of_length_le (by rw [List.length_zip]; omega)
        simp only [L_cr, fO, e1, e2, ht, TT, ↓reduceIte, Nat.reduceEqDiff, Nat.reduceAdd, Nat.reduceMul, reduceCtorEq, Nat.reduceLeDiff]
        have hcl : (landL d.sectors (keep.zip d.cache)).length = d.sectors.length := landL_len _ _
        refine Ends.weak (Weak.freezeC 2 rfl (l := [(4, .op 0 0), (5, .v (.int .i64 0))]) (h := [(0, .row true 47 [fL true (landL d.sectors (keep.zip d.cache)), .v (.slice none 0 0)])]) ?_ ?_) (Ends.imp (r0 := .tup [.agg [fL true (landL d.sectors (keep.zip d.cache)), .v (.slice none 0 0)], .v (.int .i64 0)]) (.inr rfl) (by simp [ET]) ⟨⟨al_fL _, trivial, trivial⟩, trivial, trivial⟩ (imp_crash _))
        · simp [WT]
        · have htk : List.take d.sectors.length (eL true (landL d.sectors (keep.zip d.cache))) = eL true (landL d.sectors (keep.zip d.cache)) := List.take_of_length_le (by rw [len_L, hcl]; exact Nat.le_refl _)
          simp [WT, hcl, htk]
    · have e1 : ¬ ((i : Int) < (d.cache.length : Int)) := by omega
      have ht : (keep.zip d.cache).take i = keep.zip d.cache := List.take_of_length_le (by rw [List.length_zip]; omega)
      simp only [L_cr, fO, e1, ht, TT, ↓reduceIte, Nat.reduceEqDiff, Nat.reduceAdd, Nat.reduceMul, reduceCtorEq, Nat.reduceLeDiff]
      have hcl : (landL d.sectors (keep.zip d.cache)).length = d.sectors.length := landL_len _ _
      refine Ends.weak (Weak.freezeC 2 rfl (l := [(4, .op 0 0), (5, .v (.int .i64 0))]) (h := [(0, .row true 47 [fL true (landL d.sectors (keep.zip d.cache)), .v (.slice none 0 0)])]) ?_ ?_) (Ends.imp (r0 := .tup [.agg [fL true (landL d.sectors (keep.zip d.cache)), .v (.slice none 0 0)], .v (.int .i64 0)]) (.inr rfl) (by simp [ET]) ⟨⟨al_fL _, trivial, trivial⟩, trivial, trivial⟩ (imp_crash _))
      · simp [WT]
      · have htk : List.take d.sectors.length (eL true (landL d.sectors (keep.zip d.cache))) = eL true (landL d.sectors (keep.zip d.cache)) := List.take_of_length_le (by rw [len_L, hcl]; exact Nat.le_refl _)
        simp [WT, hcl, htk]
end Go.Proofs.YtdenddhdeloceaaGreatDoor
/- Contracts: the document's disk: a flush. -/
namespace Go.Proofs.YtdenddhdeloceaaGreatDoor
open Go.RowKit
set_option maxRecDepth 100000
theorem od_O (l : List Bool) : odL (eO l) = eO l := by rw [odL_map, eO, List.map_map]; rfl
theorem od_L (fr : Bool) (l : List (List Int)) : odL (eL fr l) = eL false l := by
  rw [odL_map, eL, List.map_map, eL]
  refine List.map_congr_left fun x _ => ?_
  simp [od, od_B]
theorem odL_app : ∀ (a b : List AV), odL (a ++ b) = odL a ++ odL b
  | [], _ => rfl
  | x :: a, b => by rw [List.cons_append, odL, odL_app a b]; rfl
theorem od_Wrs (fr : Bool) : ∀ l : List Wr, odL (eWrs fr l) = eWrs false l
  | [] => rfl
  | w :: l => by
    show odL (eWr fr w ++ eWrs fr l) = eWr false w ++ eWrs false l
    rw [odL_app, od_Wrs fr l]
    simp [eWr, odL, od, od_B]
theorem bo_Dk (rws : List RW) (fr : Bool) (d : Dk) : bo rws (aDk fr d) = aDk false d := by
  simp [aDk, fL, fWrs, bo, boL, od, od_L, od_Wrs]
def kI (n i : Nat) : List Bool := List.replicate i true ++ List.replicate (n - i) false
theorem kI_set {n i : Nat} (h : i < n) : (eO (kI n i)).set i (.v (.bool true)) = eO (kI n (i + 1)) := by
  have : (kI n i).set i true = kI n (i + 1) := by
    unfold kI
    rw [List.set_append, if_neg (by simp), List.length_replicate, Nat.sub_self, show n - i = (n - (i + 1)) + 1 from by omega, List.replicate_succ, List.set_cons_zero, List.replicate_succ']
    simp
  rw [← this]; simp [eO]
theorem kI_len {n i : Nat} (h : i ≤ n) : (kI n i).length = n := by simp [kI]; omega
theorem rep_O (n : Nat) : (List.replicate n [AV.v (.bool false)]).flatten = eO (List.replicate n false) := by
  induction n with
  | zero => rfl
  | succ n ih => rw [List.replicate_succ, List.flatten_cons, ih]; rfl
def flushD (d : Dk) : Dk := crashD d (List.replicate d.cache.length true)
theorem kI_all (n : Nat) : kI n n = List.replicate n true := by simp [kI]
theorem rcrash_b (fr : Bool) (d : Dk) (id nb : Nat) (h : okD d) (h0 : 0 < d.cache.length) : ASound Tryz.prog 32 [aDk fr d, .os id 0 d.cache.length 1] nb (rowsM [(id, true, 4, eO (List.replicate d.cache.length true))] (.ret (.tup [aDk true (flushD d), .v (.int .i64 0)]) [])) := by
  have hf := h.few
  refine ASound.borrow [] [(id, true, 4, eO (List.replicate d.cache.length true))] ?_ (by intro x hx; simp at hx; subst hx; intro hx0; have hx1 := congrArg List.length hx0; rw [len_O, List.length_replicate] at hx1; exact absurd hx1 (by show d.cache.length ≠ 0; omega)) (by simp) ?_ (by simp)
  · have e : boL [(id, true, 4, eO (List.replicate d.cache.length true))] [aDk fr d, .os id 0 d.cache.length 1] = [aDk false d, fO false (List.replicate d.cache.length true)] := by
      have htk : List.take d.cache.length (eO (List.replicate d.cache.length true)) = eO (List.replicate d.cache.length true) := List.take_of_length_le (by rw [len_O, List.length_replicate]; exact Nat.le_refl _)
      simp only [boL, bo_Dk]
      simp [bo, cellsAt, od_O, fO, htk]
    rw [e]
    exact rcrash_ok false false d _ nb h (by rw [List.length_replicate]; omega)
  · have hL : ∀ {S : Nat → Prop} (l : List (List Int)), YgL S (eL true l) := fun l => by
      rw [YgL_iff]; intro a ha
      obtain ⟨x, _, rfl⟩ := List.mem_map.1 ha
      exact ⟨rfl, yg_B x⟩
    exact ⟨⟨⟨rfl, hL _⟩, ⟨rfl, trivial⟩, trivial⟩, trivial, trivial⟩
abbrev L_fl (fr : Bool) (d : Dk) (i : Nat) : ASt := ⟨envOf [(1, .op 0 0), (2, .op 1 0), (4, .os 2 0 d.cache.length 1), (5, .v (.int .i64 i))],
  heapOf [(0, .row true 47 [fL fr d.sectors, fWrs fr d.cache]), (1, zD), (2, .row true 4 (eO (kI d.cache.length i)))], 3⟩
abbrev L_f0 (fr : Bool) (d : Dk) : ASt := ⟨envOf [(1, .op 0 0), (2, .op 1 0), (4, fO true []), (5, .v (.int .i64 0))],
  heapOf [(0, .row true 47 [fL fr d.sectors, fWrs fr d.cache]), (1, zD)], 2⟩
set_option maxHeartbeats 2000000 in
theorem rflush_ok (fr : Bool) (d : Dk) (nb : Nat) (h : okD d) : ASound Tryz.prog 45 [aDk fr d] nb (.ret (.tup [aDk true (flushD d), .v (.int .i64 0)]) []) := by
  refine ok_45.sound (by simp) ⟨al_aDk d, trivial⟩ ?_
  have hf := h.few
  have cm : ((0 : Int) ≤ (d.cache.length : Int) ∧ (d.cache.length : Int) ≤ (d.cache.length : Int) ∧ ((1 : Nat) : Int) * (d.cache.length : Int) ≤ 281474976710656 ∧ (d.cache.length : Int) ≤ 9223372036854775807) = True := eq_true ⟨by omega, by omega, by omega, by omega⟩
  simp only [ac_45, cm, Int.toNat_natCast, rep_O, TT, ↓reduceIte, Nat.reduceEqDiff, Nat.reduceAdd, Nat.reduceMul, reduceCtorEq, Nat.reduceLeDiff]
  by_cases h0 : 0 < d.cache.length
  · refine AWc.family (L_fl fr d) (fun i => i ≤ d.cache.length) (fun i => d.cache.length - i) 0 (Nat.zero_le _) ?_ ?_
    · refine Weak.calc [(0, 0), (100000, 1), (600000, 2)] (by decide) ?_ ?_ <;> simp [WT, show kI d.cache.length 0 = List.replicate d.cache.length false from rfl, al_O, ren_O]
    · intro i hi
      by_cases hlt : i < d.cache.length
      · have e1 : ((i : Int) < (d.cache.length : Int)) := by omega
        have c1 : ((0 : Int) ≤ (i : Int) ∧ (i : Int) < (d.cache.length : Int)) = True := eq_true ⟨by omega, by omega⟩
        have e0 : ((0 : Int) ≤ (i : Int)) := by omega
        have hl : (kI d.cache.length i).length = d.cache.length := kI_len hi
        simp only [L_fl, e1, e0, c1, Int.toNat_natCast, kI_set hlt, len_O, hl, Nat.zero_add, TT, ↓reduceIte, Nat.reduceEqDiff, Nat.reduceAdd, Nat.reduceMul, reduceCtorEq, Nat.reduceLeDiff]
        rw [if_pos (by omega)]
        refine famC_next (i + 1) (by omega) (by omega) ?_
        refine Weak.calc [(0, 0), (1, 1), (2, 2)] (by decide) ?_ ?_ <;> simp [WT, al_O, ren_O, wrap64 (x := (i : Int) + 1) (by omega)]
      · obtain rfl : i = d.cache.length := by omega
        have e1 : ¬ ((d.cache.length : Int) < (d.cache.length : Int)) := by omega
        have hc := fun id nb => rcrash_b fr d id nb h h0
        simp only [aDk, fL, fWrs] at hc
        simp only [L_fl, e1, kI_all, TT, ↓reduceIte, Nat.reduceEqDiff, Nat.reduceAdd, Nat.reduceMul, reduceCtorEq, Nat.reduceLeDiff]
        refine ⟨_, hc _ _, ?_⟩
        simp only [TT, ↓reduceIte, Nat.reduceEqDiff, Nat.reduceAdd, Nat.reduceMul, reduceCtorEq, Nat.reduceLeDiff]
        exact Ends.data (r := .tup [aDk true (flushD d), .v (.int .i64 0)]) (.inr rfl) (by simp [ET, aDk, fL, fWrs]) ⟨al_aDk _, trivial, trivial⟩
  · have hn : d.cache.length = 0 := by omega
    refine AWc.family (fun _ : Unit => L_f0 fr d) (fun _ => True) (fun _ => 0) () trivial ?_ ?_
    · refine Weak.trans (Weak.freezeC 600000 rfl (l := [(1, .op 0 0), (2, .op 100000 0), (4, fO true []), (5, .v (.int .i64 0))]) (h := [(0, .row true 47 [fL fr d.sectors, fWrs fr d.cache]), (100000, zD)]) ?_ ?_) (Weak.calc [(0, 0), (100000, 1)] (by decide) ?_ ?_)
      all_goals simp [WT, hn, fO, eO]
    · intro _ _
      have e1 : ¬ ((0 : Int) < ((0 : Nat) : Int)) := by decide
      have hc := rcrash_ok fr true d []
      have hfd : flushD d = crashD d [] := by unfold flushD; rw [hn]; rfl
      rw [← hfd] at hc
      simp only [aDk, fL, fWrs, fO, List.length_nil] at hc
      simp only [L_f0, fO, List.length_nil, e1, TT, ↓reduceIte, Nat.reduceEqDiff, Nat.reduceAdd, Nat.reduceMul, reduceCtorEq, Nat.reduceLeDiff]
      refine ⟨_, hc _ h (by decide), ?_⟩
      simp only [TT, ↓reduceIte, Nat.reduceEqDiff, Nat.reduceAdd, Nat.reduceMul, reduceCtorEq, Nat.reduceLeDiff]
      exact Ends.data (r := .tup [aDk true (flushD d), .v (.int .i64 0)]) (.inr rfl) (by simp [ET, aDk, fL, fWrs]) ⟨al_aDk _, trivial, trivial⟩
end Go.Proofs.YtdenddhdeloceaaGreatDoor
/- Contracts: the document's disk: eight sectors put. -/
namespace Go.Proofs.YtdenddhdeloceaaGreatDoor
open Go.RowKit
set_option maxRecDepth 100000
def chunk (data : List Int) (i : Nat) : List Int := (data.drop (64 * i)).take 64
def putL (s : Nat) (data : List Int) (n : Nat) : List Wr := (List.range n).map fun i => ⟨((s + i : Nat) : Int), chunk data i⟩
def putD (d : Dk) (s : Nat) (data : List Int) : Dk := ⟨d.sectors, d.cache ++ putL s data 8⟩
def dk0 : Dk := ⟨[], []⟩
theorem putL_s (s : Nat) (data : List Int) (n : Nat) : putL s data (n + 1) = putL s data n ++ [⟨((s + n : Nat) : Int), chunk data n⟩] := by simp [putL, List.range_succ]
theorem putL_len (s : Nat) (data : List Int) (n : Nat) : (putL s data n).length = n := by simp [putL]
theorem chunk_len {data : List Int} (h : data.length = 512) {i : Nat} (hi : i < 8) : (chunk data i).length = 64 := by
  unfold chunk; rw [List.length_take, List.length_drop]; omega
theorem pad_full {n : Nat} {l : List Int} (h : l.length = n) : pad n l = l := by unfold pad; rw [h, Nat.sub_self]; simp
theorem imp_dk0 (e : Int) : Imp (.tup [.agg [.v (.slice none 0 0), .v (.slice none 0 0)], .v (.int .i64 e)]) (.tup [aDk true dk0, .v (.int .i64 e)]) :=
  Imp.tupL ⟨Imp.aggL ⟨Imp.nil true, Imp.nil true, trivial⟩, Imp.refl _, trivial⟩
abbrev dz : AV := .agg [.v (.slice none 0 0), .v (.slice none 0 0)]
theorem al_dz {p : Nat → Prop} (e : Int) : Al p (.tup [dz, .v (.int .i64 e)]) := ⟨⟨trivial, trivial, trivial⟩, trivial, trivial⟩
abbrev L_pa (fk : Bool) (d : Dk) (s : Nat) (data : List Int) (i : Nat) : ASt := ⟨envOf [(1, .v (.int .i64 s)), (2, fB fk data), (6, .op 0 0), (8, .v (.int .i64 8)), (9, .op 1 0), (10, .v (.int .i64 i))],
  heapOf [(0, zD), (1, .row true 47 [fL true d.sectors, .os 2 0 (d.cache ++ putL s data i).length 2]), (2, .row true 89 (eWrs true (d.cache ++ putL s data i)))], 3⟩
set_option maxHeartbeats 2000000 in
theorem rputAll_spec (fr fk : Bool) (d : Dk) (s : Nat) (data : List Int) (nb : Nat) (h : okD d) (hd : data.length = 512) (hs : s + 8 ≤ d.sectors.length) :
    ASound Tryz.prog 31 [aDk fr d, .v (.int .i64 s), fB fk data] nb (.ret (.tup [aDk true (if d.cache.length + 8 ≤ 4096 then putD d s data else dk0), .v (.int .i64 (if d.cache.length + 8 ≤ 4096 then 0 else 51))]) []) := by
  refine ok_31.sound (by simp) ⟨al_aDk d, trivial, al_fB data, trivial⟩ ?_
  have hc := rdcheck_spec fr d
  rw [dkE_ok h] at hc
  have ho := rown_cache fr d
  have hf := h.few
  simp only [aDk, fL, fWrs] at hc ho
  have hdl : (data.length : Int) = 512 := by omega
  have x1 : IntKind.i64.wrap (512 + 64) = 576 := rfl
  have x2 : IntKind.i64.wrap (576 - 1) = 575 := rfl
  have f1 : ¬ ((s : Int) < 0) := by omega
  have f3 : ¬ ((d.sectors.length : Int) < (s : Int)) := by omega
  have w1 : IntKind.i64.wrap ((d.sectors.length : Int) - (s : Int)) = ((d.sectors.length - s : Nat) : Int) := by rw [wrap64 (by omega)]; omega
  have f4 : ¬ (((d.sectors.length - s : Nat) : Int) < 8) := by omega
  have w3 : IntKind.i64.wrap ((d.cache.length : Int) + 8) = ((d.cache.length + 8 : Nat) : Int) := by rw [wrap64 (by omega)]; omega
  have z64 : ((64 : Int) = 0) = False := eq_false (by decide)
  have x3 : IntKind.i64.wrap (Int.tdiv 575 64) = 8 := rfl
  by_cases hov : d.cache.length + 8 ≤ 4096
  · have f5 : ¬ ((4096 : Int) < ((d.cache.length + 8 : Nat) : Int)) := by omega
    rw [if_pos hov, if_pos hov]
    simp only [ac_31, hdl, x1, x2, z64, x3, TT, ↓reduceIte, Nat.reduceEqDiff, Nat.reduceAdd, Nat.reduceMul, reduceCtorEq, Nat.reduceLeDiff]
    refine ⟨_, hc _, ?_⟩
    simp only [f1, f3, w1, f4, w3, f5, not_true_eq_false, TT, ↓reduceIte, Nat.reduceEqDiff, Nat.reduceAdd, Nat.reduceMul, reduceCtorEq, Nat.reduceLeDiff]
    refine ⟨_, ho _ (by omega) (okD_secs h) (by omega) (okD_data h), ?_⟩
    simp only [TT, ↓reduceIte, Nat.reduceEqDiff, Nat.reduceAdd, Nat.reduceMul, reduceCtorEq, Nat.reduceLeDiff]
    refine AWc.family (L_pa fk d s data) (fun i => i ≤ 8) (fun i => 8 - i) 0 (Nat.zero_le _) ?_ ?_
    · refine Weak.calc [(100000, 0), (4100000, 1), (4000000, 2)] (by decide) ?_ ?_ <;> simp [WT, putL]
    · intro i hi
      by_cases hlt : i < 8
      · have e1 : ((i : Int) < 8) := by omega
        have wi1 : IntKind.i64.wrap ((i : Int) + 1) = ((i + 1 : Nat) : Int) := by rw [wrap64 (by omega)]; omega
        have wi2 : IntKind.i64.wrap ((s : Int) + (i : Int)) = ((s + i : Nat) : Int) := by rw [wrap64 (by omega)]; omega
        have wi3 : IntKind.i64.wrap (64 * (i : Int)) = ((64 * i : Nat) : Int) := by rw [wrap64 (by omega)]; omega
        have wi4 : IntKind.i64.wrap (64 * ((i + 1 : Nat) : Int)) = ((64 * i + 64 : Nat) : Int) := by rw [wrap64 (by omega)]; omega
        have hck := chunk_len hd hlt
        have hpd := padded_spec fk (chunk data i)
        rw [pad_full hck] at hpd
        simp only [fB, hck] at hpd
        have m1 : ((512 : Int) < ((64 * i + 64 : Nat) : Int)) = False := eq_false (by omega)
        have cc : ((0 : Int) ≤ ((64 * i : Nat) : Int) ∧ ((64 * i : Nat) : Int) ≤ ((64 * i + 64 : Nat) : Int) ∧ ((64 * i + 64 : Nat) : Int) ≤ 512) = True := eq_true ⟨by omega, by omega, by omega⟩
        have n1 : 64 * i + 64 - 64 * i = 64 := by omega
        have hch : List.take 64 (List.drop (64 * i) (eB data)) = eB (chunk data i) := by rw [drop_B, take_B]; rfl
        have hll : (eWrs true (d.cache ++ putL s data i)).length = (d.cache ++ putL s data i).length * 2 := len_Wrs _
        have hn : (d.cache ++ putL s data i).length + 1 = (d.cache ++ putL s data (i + 1)).length := by simp [putL_len]; omega
        have hcs : eWrs true (d.cache ++ putL s data i) ++ [.v (.int .i64 ((s + i : Nat) : Int)), .fs true (eB (chunk data i)) 64] = eWrs true (d.cache ++ putL s data (i + 1)) := by
          rw [putL_s, ← List.append_assoc, app_Wrs (d.cache ++ putL s data i)]
          simp [eWrs, eWr, hck]
        have hle : (d.cache ++ putL s data (i + 1)).length ≤ 4096 := by simp [putL_len]; omega
        simp only [L_pa, e1, wi1, wi2, wi3, wi4, hdl, m1, cc, n1, hch, Int.toNat_natCast, TT, ↓reduceIte, Nat.reduceEqDiff, Nat.reduceAdd, Nat.reduceMul, reduceCtorEq, Nat.reduceLeDiff]
        refine ⟨_, hpd _ (by decide), ?_⟩
        simp only [hll, hcs, hn, TT, ↓reduceIte, Nat.reduceEqDiff, Nat.reduceAdd, Nat.reduceMul, reduceCtorEq, Nat.reduceLeDiff]
        rw [if_pos (by omega)]
        refine ⟨by rfl, ?_⟩
        refine famC_next (i + 1) (by omega) (by omega) ?_
        refine Weak.calc [(0, 0), (1, 1), (2100003, 2)] (by decide) ?_ ?_ <;> simp [WT, wrap64 (x := (i : Int) + 1) (by omega)]
      · obtain rfl : i = 8 := by omega
        have e1 : ¬ (((8 : Nat) : Int) < 8) := by decide
        have hpD : putD d s data = ⟨d.sectors, d.cache ++ putL s data 8⟩ := rfl
        rw [hpD]
        simp only [L_pa, e1, TT, ↓reduceIte, Nat.reduceEqDiff, Nat.reduceAdd, Nat.reduceMul, reduceCtorEq, Nat.reduceLeDiff]
        generalize d.cache ++ putL s data 8 = C
        refine Ends.weak (Weak.freezeC 2 rfl (l := [(6, .op 0 0), (7, .v (.int .i64 0))]) (h := [(0, .row true 47 [fL true d.sectors, fWrs true C])]) ?_ ?_) (Ends.data (r := .tup [aDk true ⟨d.sectors, C⟩, .v (.int .i64 0)]) (.inr rfl) (by simp [ET, aDk]) ⟨al_aDk _, trivial, trivial⟩)
        · simp [WT]
        · simp [WT]
  · have f5 : ((4096 : Int) < ((d.cache.length + 8 : Nat) : Int)) := by omega
    rw [if_neg hov, if_neg hov]
    simp only [ac_31, hdl, x1, x2, z64, x3, TT, ↓reduceIte, Nat.reduceEqDiff, Nat.reduceAdd, Nat.reduceMul, reduceCtorEq, Nat.reduceLeDiff]
    refine ⟨_, hc _, ?_⟩
    simp only [f1, f3, w1, f4, w3, f5, not_true_eq_false, TT, ↓reduceIte, Nat.reduceEqDiff, Nat.reduceAdd, Nat.reduceMul, reduceCtorEq, Nat.reduceLeDiff]
    exact Ends.imp (r0 := .tup [dz, .v (.int .i64 51)]) (.inr rfl) (by simp [ET]) (al_dz 51) (imp_dk0 51)
end Go.Proofs.YtdenddhdeloceaaGreatDoor
/- Contracts: the document's Store. -/
namespace Go.Proofs.YtdenddhdeloceaaGreatDoor
open Go.RowKit
set_option maxRecDepth 100000
noncomputable def askE (d : Dk) : Int := by classical exact if okD d then (if d.sectors.length < 16 then 41 else 0) else 9
theorem askE_no {d : Dk} (h : ¬ okD d) : askE d = 9 := by unfold askE; rw [if_neg h]
theorem askE_few {d : Dk} (h : okD d) (h2 : d.sectors.length < 16) : askE d = 41 := by unfold askE; rw [if_pos h, if_pos h2]
theorem askE_ok {d : Dk} (h : okD d) (h2 : ¬ d.sectors.length < 16) : askE d = 0 := by unfold askE; rw [if_pos h, if_neg h2]
theorem askE_iff {d : Dk} : askE d = 0 ↔ okD d ∧ ¬ d.sectors.length < 16 := by
  constructor
  · intro h
    by_cases h1 : okD d
    · by_cases h2 : d.sectors.length < 16
      · rw [askE_few h1 h2] at h; simp at h
      · exact ⟨h1, h2⟩
    · rw [askE_no h1] at h; simp at h
  · rintro ⟨h1, h2⟩; exact askE_ok h1 h2
theorem rasked_spec (fr : Bool) (d : Dk) (nb : Nat) : ASound Tryz.prog 44 [aDk fr d] nb (.ret (.v (.int .i64 (askE d))) []) := by
  refine ok_44.sound (by simp) ⟨al_aDk d, trivial⟩ ?_
  have hc := rdcheck_spec fr d
  simp only [aDk, fL, fWrs] at hc
  simp only [ac_44, TT, ↓reduceIte, Nat.reduceEqDiff, Nat.reduceAdd, Nat.reduceMul, reduceCtorEq, Nat.reduceLeDiff]
  refine ⟨_, hc _, ?_⟩
  by_cases h : okD d
  · rw [dkE_ok h]
    by_cases h2 : d.sectors.length < 16
    · have f : (d.sectors.length : Int) < 16 := by omega
      rw [askE_few h h2]
      simp only [f, not_true_eq_false, TT, ↓reduceIte, Nat.reduceEqDiff, Nat.reduceAdd, Nat.reduceMul, reduceCtorEq, Nat.reduceLeDiff]
      exact Ends.data (.inr rfl) (by simp [ET]) trivial
    · have f : ¬ (d.sectors.length : Int) < 16 := by omega
      rw [askE_ok h h2]
      simp only [f, not_true_eq_false, TT, ↓reduceIte, Nat.reduceEqDiff, Nat.reduceAdd, Nat.reduceMul, reduceCtorEq, Nat.reduceLeDiff]
      exact Ends.data (.inr rfl) (by simp [ET]) trivial
  · rw [dkE_no h, askE_no h]
    have e9 : ¬ (9 : Int) = 0 := by decide
    simp only [e9, not_false_eq_true, TT, ↓reduceIte, Nat.reduceEqDiff, Nat.reduceAdd, Nat.reduceMul, reduceCtorEq, Nat.reduceLeDiff]
    exact Ends.data (.inr rfl) (by simp [ET]) trivial
theorem okD_put {d : Dk} (h : okD d) {s : Nat} {data : List Int} (hd : data.length = 512) (hs : s + 8 ≤ d.sectors.length) (hc : d.cache.length + 8 ≤ 4096) : okD (putD d s data) := by
  have hf := h.few
  refine ⟨?_, h.secs, ?_⟩
  · show ¬ (d.sectors.length < 1 ∨ 2048 < d.sectors.length ∨ 4096 < (d.cache ++ putL s data 8).length)
    rw [List.length_append, putL_len]; omega
  · intro w hw
    rcases List.mem_append.1 hw with h1 | h1
    · exact h.cache w h1
    · obtain ⟨i, hi, rfl⟩ := List.mem_map.1 h1
      rw [List.mem_range] at hi
      rintro (h2 | h2 | h2)
      · simp only at h2; omega
      · simp only [putD] at h2; omega
      · exact h2 (chunk_len hd hi)
def slotP (p : Pt) : Nat := 8 * (p.epoch.toNat % 2)
noncomputable def storeD (d : Dk) (p : Pt) : Dk × Int := if askE d ≠ 0 then (dk0, askE d) else if ptE p ≠ 0 then (dk0, ptE p) else if d.cache.length + 8 ≤ 4096 then (flushD (putD d (slotP p) (encP p).1), 0) else (dk0, 51)
set_option maxHeartbeats 4000000 in
theorem rstore_spec (fr fp : Bool) (d : Dk) (p : Pt) (nb : Nat) : ASound Tryz.prog 22 [aDk fr d, aPt fp p] nb (.ret (.tup [aDk true (storeD d p).1, .v (.int .i64 (storeD d p).2)]) []) := by
  refine ok_22.sound (by simp) ⟨al_aDk d, al_aPt p, trivial⟩ ?_
  have ha := rasked_spec fr d
  have he := rpencode_spec fp p
  simp only [aDk, fL, fWrs] at ha
  simp only [aPt, fB] at he
  simp only [ac_22, TT, ↓reduceIte, Nat.reduceEqDiff, Nat.reduceAdd, Nat.reduceMul, reduceCtorEq, Nat.reduceLeDiff]
  refine ⟨_, ha _, ?_⟩
  by_cases hA : askE d = 0
  · obtain ⟨hok, h16⟩ := askE_iff.1 hA
    rw [hA]
    simp only [not_true_eq_false, TT, ↓reduceIte, Nat.reduceEqDiff, Nat.reduceAdd, Nat.reduceMul, reduceCtorEq, Nat.reduceLeDiff]
    refine ⟨_, he _, ?_⟩
    by_cases hE : ptE p = 0
    · have hp := (okP_iff p).1 hE
      have hen : encP p = (pad 512 (bodyP p), 0) := by rw [encP, if_pos hE]
      have hlen : (pad 512 (bodyP p)).length = 512 := pad_len (by have := bodyP_le hp; omega)
      have h0 : 0 ≤ p.epoch ∧ p.epoch ≤ 1099511627776 := by have := hp.nums p.epoch (by simp [numsP]); omega
      have hsl : slotP p + 8 ≤ d.sectors.length := by unfold slotP; omega
      have hrem : IntKind.i64.wrap (8 * Int.tmod p.epoch 2) = (slotP p : Int) := by
        rw [Int.tmod_eq_emod_of_nonneg h0.1, wrap64 (by omega)]
        unfold slotP; omega
      have z2 : ((2 : Int) = 0) = False := eq_false (by decide)
      have hpa := rputAll_spec fr true d (slotP p) (pad 512 (bodyP p))
      simp only [aDk, fB, fL, fWrs] at hpa
      rw [hen]
      have hst : storeD d p = if d.cache.length + 8 ≤ 4096 then (flushD (putD d (slotP p) (pad 512 (bodyP p))), 0) else (dk0, 51) := by
        unfold storeD; rw [if_neg (by rw [hA]; simp), if_neg (by rw [hE]; simp), hen]
      by_cases hov : d.cache.length + 8 ≤ 4096
      · have hfl := rflush_ok true (putD d (slotP p) (pad 512 (bodyP p)))
        simp only [aDk, fL, fWrs] at hfl
        rw [hst, if_pos hov]
        simp only [if_pos hov] at hpa
        have hokD := okD_put (data := pad 512 (bodyP p)) hok hlen hsl hov
        simp only [z2, hrem, not_true_eq_false, TT, ↓reduceIte, Nat.reduceEqDiff, Nat.reduceAdd, Nat.reduceMul, reduceCtorEq, Nat.reduceLeDiff]
        refine ⟨_, hpa _ hok hlen hsl, ?_⟩
        generalize putD d (slotP p) (pad 512 (bodyP p)) = D at hfl hokD
        simp only [not_true_eq_false, TT, ↓reduceIte, Nat.reduceEqDiff, Nat.reduceAdd, Nat.reduceMul, reduceCtorEq, Nat.reduceLeDiff]
        refine ⟨_, hfl _ hokD, ?_⟩
        simp only [TT, ↓reduceIte, Nat.reduceEqDiff, Nat.reduceAdd, Nat.reduceMul, reduceCtorEq, Nat.reduceLeDiff]
        exact Ends.data (r := .tup [aDk true (flushD D), .v (.int .i64 0)]) (.inr rfl) (by simp [ET, aDk, fL, fWrs]) ⟨al_aDk _, trivial, trivial⟩
      · have e51 : ¬ (51 : Int) = 0 := by decide
        rw [hst, if_neg hov]
        simp only [if_neg hov] at hpa
        simp only [z2, hrem, not_true_eq_false, TT, ↓reduceIte, Nat.reduceEqDiff, Nat.reduceAdd, Nat.reduceMul, reduceCtorEq, Nat.reduceLeDiff]
        refine ⟨_, hpa _ hok hlen hsl, ?_⟩
        simp only [e51, not_false_eq_true, TT, ↓reduceIte, Nat.reduceEqDiff, Nat.reduceAdd, Nat.reduceMul, reduceCtorEq, Nat.reduceLeDiff]
        exact Ends.imp (r0 := .tup [dz, .v (.int .i64 51)]) (.inr rfl) (by simp [ET]) (al_dz _) (imp_dk0 _)
    · have hen : encP p = ([], ptE p) := by rw [encP, if_neg hE]
      have hst : storeD d p = (dk0, ptE p) := by unfold storeD; rw [if_neg (by rw [hA]; simp), if_pos hE]
      rw [hen, hst]
      simp only [hE, not_false_eq_true, TT, ↓reduceIte, Nat.reduceEqDiff, Nat.reduceAdd, Nat.reduceMul, reduceCtorEq, Nat.reduceLeDiff]
      exact Ends.imp (r0 := .tup [dz, .v (.int .i64 (ptE p))]) (.inr rfl) (by simp [ET]) (al_dz _) (imp_dk0 _)
  · have hst : storeD d p = (dk0, askE d) := by unfold storeD; rw [if_pos hA]
    rw [hst]
    simp only [hA, not_false_eq_true, TT, ↓reduceIte, Nat.reduceEqDiff, Nat.reduceAdd, Nat.reduceMul, reduceCtorEq, Nat.reduceLeDiff]
    exact Ends.imp (r0 := .tup [dz, .v (.int .i64 (askE d))]) (.inr rfl) (by simp [ET]) (al_dz _) (imp_dk0 _)
end Go.Proofs.YtdenddhdeloceaaGreatDoor
/- Contract: the document's Load. -/
namespace Go.Proofs.YtdenddhdeloceaaGreatDoor
open Go.RowKit
set_option maxRecDepth 100000
structure octD (d : Dk) : Prop where
  secs : ∀ s ∈ d.sectors, okB s
  cache : ∀ w ∈ d.cache, okB w.data
theorem secAt_okB {d : Dk} (ho : octD d) (k : Nat) : okB (secAt d k) := by
  unfold secAt
  refine lastB_p (p := okB) ?_ fun w hw => ho.cache w hw
  cases h : d.sectors[k]? with
  | none => intro x hx; simp at hx
  | some s => exact ho.secs s (List.mem_of_getElem? h)
theorem getD_okB {d : Dk} (ho : octD d) (s n : Nat) : okB (getD d s n) := by
  intro x hx
  obtain ⟨i, _, hi⟩ := List.mem_flatMap.1 hx
  exact secAt_okB ho _ x hi
/-- of two regions -/
def pickP (x y : Pt × Int) : Pt × Int := if x.2 ≠ 0 ∧ y.2 ≠ 0 then (pt0, 21) else if x.2 ≠ 0 ∨ (y.2 = 0 ∧ x.1.epoch < y.1.epoch) then (y.1, 0) else (x.1, 0)
noncomputable def loadD (d : Dk) : Pt × Int := if askE d ≠ 0 then (pt0, askE d) else pickP (decP (getD d 0 8)) (decP (getD d 8 8))
set_option maxHeartbeats 4000000 in
theorem rload_spec (fr : Bool) (d : Dk) (nb : Nat) (ho : octD d) : ASound Tryz.prog 24 [aDk fr d] nb (.ret (.tup [aPt true (loadD d).1, .v (.int .i64 (loadD d).2)]) []) := by
  refine ok_24.sound (by simp) ⟨al_aDk d, trivial⟩ ?_
  have ha := rasked_spec fr d
  simp only [aDk, fL, fWrs] at ha
  simp only [ac_24, TT, ↓reduceIte, Nat.reduceEqDiff, Nat.reduceAdd, Nat.reduceMul, reduceCtorEq, Nat.reduceLeDiff]
  refine ⟨_, ha _, ?_⟩
  by_cases hA : askE d = 0
  · obtain ⟨hok, h16⟩ := askE_iff.1 hA
    have hst : loadD d = pickP (decP (getD d 0 8)) (decP (getD d 8 8)) := by unfold loadD; rw [if_neg (by rw [hA]; simp)]
    rw [hA, hst]
    have g1 := rgetAll_ok fr d 0 8
    have g2 := rgetAll_ok fr d 8 8
    have l1 := getD_len hok 0 8 (by omega)
    have l2 := getD_len hok 8 8 (by omega)
    have d1 := rpdecode_spec true (getD d 0 8)
    have d2 := rpdecode_spec true (getD d 8 8)
    have o1 := getD_okB ho 0 8
    have o2 := getD_okB ho 8 8
    generalize getD d 0 8 = A at g1 l1 d1 o1
    generalize getD d 8 8 = B at g2 l2 d2 o2
    simp only [aDk, fB, fL, fWrs, show ((0 : Nat) : Int) = 0 from rfl, show ((8 : Nat) : Int) = 8 from rfl] at g1 g2
    simp only [fB, aPt] at d1 d2
    simp only [not_true_eq_false, TT, ↓reduceIte, Nat.reduceEqDiff, Nat.reduceAdd, Nat.reduceMul, reduceCtorEq, Nat.reduceLeDiff]
    refine ⟨_, g1 _ hok (by omega), ?_⟩
    simp only [TT, ↓reduceIte, Nat.reduceEqDiff, Nat.reduceAdd, Nat.reduceMul, reduceCtorEq, Nat.reduceLeDiff]
    refine ⟨_, g2 _ hok (by omega), ?_⟩
    simp only [TT, ↓reduceIte, Nat.reduceEqDiff, Nat.reduceAdd, Nat.reduceMul, reduceCtorEq, Nat.reduceLeDiff]
    refine ⟨_, d1 _ o1 (by omega), ?_⟩
    simp only [TT, ↓reduceIte, Nat.reduceEqDiff, Nat.reduceAdd, Nat.reduceMul, reduceCtorEq, Nat.reduceLeDiff]
    refine ⟨_, d2 _ o2 (by omega), ?_⟩
    generalize decP A = x
    generalize decP B = y
    obtain ⟨x, e⟩ := x
    obtain ⟨y, f⟩ := y
    simp only
    by_cases he : e = 0
    · subst he
      by_cases hf : f = 0
      · subst hf
        by_cases hlt : x.epoch < y.epoch
        · have hp : pickP (x, 0) (y, 0) = (y, 0) := by simp [pickP, hlt]
          rw [hp]
          simp only [hlt, not_true_eq_false, TT, ↓reduceIte, Nat.reduceEqDiff, Nat.reduceAdd, Nat.reduceMul, reduceCtorEq, Nat.reduceLeDiff]
          exact Ends.data (r := .tup [aPt true y, .v (.int .i64 0)]) (.inr rfl) (by simp [ET, aPt, fB]) ⟨al_aPt _, trivial, trivial⟩
        · have hp : pickP (x, 0) (y, 0) = (x, 0) := by simp [pickP, hlt]
          rw [hp]
          simp only [hlt, not_true_eq_false, TT, ↓reduceIte, Nat.reduceEqDiff, Nat.reduceAdd, Nat.reduceMul, reduceCtorEq, Nat.reduceLeDiff]
          exact Ends.data (r := .tup [aPt true x, .v (.int .i64 0)]) (.inr rfl) (by simp [ET, aPt, fB]) ⟨al_aPt _, trivial, trivial⟩
      · have hp : pickP (x, 0) (y, f) = (x, 0) := by simp [pickP, hf]
        rw [hp]
        simp only [hf, not_true_eq_false, not_false_eq_true, TT, ↓reduceIte, Nat.reduceEqDiff, Nat.reduceAdd, Nat.reduceMul, reduceCtorEq, Nat.reduceLeDiff]
        exact Ends.data (r := .tup [aPt true x, .v (.int .i64 0)]) (.inr rfl) (by simp [ET, aPt, fB]) ⟨al_aPt _, trivial, trivial⟩
    · by_cases hf : f = 0
      · subst hf
        have hp : pickP (x, e) (y, 0) = (y, 0) := by simp [pickP, he]
        rw [hp]
        simp only [he, not_true_eq_false, not_false_eq_true, TT, ↓reduceIte, Nat.reduceEqDiff, Nat.reduceAdd, Nat.reduceMul, reduceCtorEq, Nat.reduceLeDiff]
        exact Ends.data (r := .tup [aPt true y, .v (.int .i64 0)]) (.inr rfl) (by simp [ET, aPt, fB]) ⟨al_aPt _, trivial, trivial⟩
      · have hp : pickP (x, e) (y, f) = (pt0, 21) := by simp [pickP, he, hf]
        rw [hp]
        simp only [he, hf, not_true_eq_false, not_false_eq_true, TT, ↓reduceIte, Nat.reduceEqDiff, Nat.reduceAdd, Nat.reduceMul, reduceCtorEq, Nat.reduceLeDiff]
        exact Ends.imp (r0 := .tup [pz, .v (.int .i64 21)]) (.inr rfl) (by simp [ET]) (al_pz 21) (imp_pt0 21)
  · have hst : loadD d = (pt0, askE d) := by unfold loadD; rw [if_pos hA]
    rw [hst]
    simp only [hA, not_false_eq_true, TT, ↓reduceIte, Nat.reduceEqDiff, Nat.reduceAdd, Nat.reduceMul, reduceCtorEq, Nat.reduceLeDiff]
    exact Ends.imp (r0 := .tup [pz, .v (.int .i64 (askE d))]) (.inr rfl) (by simp [ET]) (al_pz _) (imp_pt0 _)
end Go.Proofs.YtdenddhdeloceaaGreatDoor
/- Functions of the program, compiled. -/
namespace Go.Proofs.YtdenddhdeloceaaGreatDoor
set_option maxRecDepth 100000
def ac_26 : AC :=
(.seq (.reg false [⟨some 2, .new 50 [(.slice none 0 0), (.slice none 0 0)], none, [], []⟩,
    ⟨some 3, .mv (.const (.int .i64 (0))), none, [], []⟩] [0, 2])
(.seq (.seq (.reg false [⟨some 5, .mv (.tmp 0), none, [0], []⟩,
    ⟨some 6, .bin .lss (.tmp 5) (.const (.int .i64 (1))), none, [5], []⟩,
    ⟨some 7, .mv (.tmp 6), none, [6], []⟩,
    ⟨some 8, .mv (.tmp 0), some (7, false), [0, 7], []⟩,
    ⟨some 9, .bin .gtr (.tmp 8) (.const (.int .i64 (2048))), some (7, false), [8, 7], []⟩,
    ⟨some 10, .pick (.tmp 7) (.const (.bool true)) (.tmp 9), none, [7, 9], []⟩] [0, 2, 10])
(.cond (.tmp 10)
(.seq (.reg false [⟨some 11, .build [(.slice none 0 0), (.slice none 0 0)] [], none, [], []⟩,
    ⟨none, .store 2 (.tmp 2) (.tmp 11), none, [2, 11], []⟩,
    ⟨some 3, .mv (.const (.int .i64 (4))), none, [], []⟩] [2, 3])
.ret)
.skip))
(.seq (.reg false [⟨some 4, .new 50 [(.slice none 0 0), (.slice none 0 0)], none, [], []⟩] [0, 2, 4])
(.seq (.seq (.reg false [⟨some 12, .mv (.tmp 0), none, [0], []⟩,
    ⟨some 13, .mv (.const (.int .i64 (0))), none, [], []⟩] [2, 4, 12, 13])
(.block 0 (.loop (.seq (.reg false [⟨some 14, .bin .lss (.tmp 13) (.tmp 12), none, [13, 12], []⟩] [2, 4, 12, 13, 14])
(.seq (.cond (.tmp 14)
.skip
(.exit 0))
(.seq (.block 1 (.reg true [⟨some 15, .foff 0 (.tmp 4), none, [4], []⟩,
    ⟨some 16, .load false 1 (.tmp 15), none, [15], [0]⟩,
    ⟨some 17, .mksl 5 1 1 [(.int .u8 (0))] (.const (.int .i64 (64))) (.const (.int .i64 (64))), none, [], []⟩,
    ⟨some 18, .bslice 22 1 1 [(.slice none 0 0)] [(0, 1, (.tmp 17))], none, [17], [2]⟩,
    ⟨some 19, .append 22 1 24 (.tmp 16) (.tmp 18), none, [16, 18], [1, 3, 0, 2]⟩,
    ⟨some 20, .foff 0 (.tmp 4), none, [4], [0, 1, 2, 3, 4]⟩,
    ⟨none, .store 1 (.tmp 20) (.tmp 19), none, [20, 19], [5, 4, 0, 1, 2, 3]⟩] [2, 4, 12, 13]))
(.reg false [⟨some 21, .bin .add (.tmp 13) (.const (.int .i64 (1))), none, [13], []⟩,
    ⟨some 13, .mv (.tmp 21), none, [21], []⟩] [2, 4, 12, 13])))))))
(.seq (.reg false [⟨some 22, .load true 2 (.tmp 4), none, [4], []⟩,
    ⟨none, .store 2 (.tmp 2) (.tmp 22), none, [2, 22], []⟩,
    ⟨some 3, .mv (.const (.int .i64 (0))), none, [], []⟩] [2, 3])
.ret)))))
theorem ok_26 : FnOk Tryz.prog 26 23 ac_26 [.cell 2 true 2, .tmp 3] := ⟨Tryz.f26, Tryz.func26, by kernel_rfl, by kernel_rfl, by kernel_rfl, by kernel_rfl, by kernel_rfl⟩
def ac_50 : AC :=
(.seq (.reg false [⟨some 3, .box 50 (.tmp 0), none, [0], []⟩,
    ⟨some 6, .mv (.const (.bool false)), none, [], []⟩] [1, 2, 3])
(.seq (.reg false [⟨some 7, .mv (.tmp 1), none, [1], []⟩,
    ⟨some 8, .bin .geq (.tmp 7) (.const (.int .i64 (0))), none, [7], []⟩,
    ⟨some 9, .mv (.tmp 8), none, [8], []⟩,
    ⟨some 10, .mv (.tmp 2), some (9, true), [2, 9], []⟩,
    ⟨some 11, .bin .geq (.tmp 10) (.const (.int .i64 (0))), some (9, true), [10, 9], []⟩,
    ⟨some 12, .pick (.tmp 9) (.tmp 11) (.const (.bool false)), none, [9, 11], []⟩,
    ⟨some 13, .mv (.tmp 12), none, [12], []⟩,
    ⟨some 14, .mv (.tmp 1), some (13, true), [1, 13], []⟩,
    ⟨some 15, .foff 0 (.tmp 3), some (13, true), [3, 13], []⟩,
    ⟨some 16, .load false 1 (.tmp 15), some (13, true), [15, 13], []⟩,
    ⟨some 17, .len false (.tmp 16), some (13, true), [16, 13], []⟩,
    ⟨some 18, .bin .leq (.tmp 14) (.tmp 17), some (13, true), [14, 17, 13], []⟩,
    ⟨some 19, .pick (.tmp 13) (.tmp 18) (.const (.bool false)), none, [13, 18], []⟩,
    ⟨some 20, .mv (.tmp 19), none, [19], []⟩,
    ⟨some 21, .mv (.tmp 2), some (20, true), [2, 20], []⟩,
    ⟨some 22, .foff 0 (.tmp 3), some (20, true), [3, 20], []⟩,
    ⟨some 23, .load false 1 (.tmp 22), some (20, true), [22, 20], []⟩,
    ⟨some 24, .len false (.tmp 23), some (20, true), [23, 20], []⟩,
    ⟨some 25, .mv (.tmp 1), some (20, true), [1, 20], []⟩,
    ⟨some 26, .bin .sub (.tmp 24) (.tmp 25), some (20, true), [24, 25, 20], []⟩,
    ⟨some 27, .bin .leq (.tmp 21) (.tmp 26), some (20, true), [21, 26, 20], []⟩,
    ⟨some 28, .pick (.tmp 20) (.tmp 27) (.const (.bool false)), none, [20, 27], []⟩,
    ⟨some 6, .mv (.tmp 28), none, [28], []⟩] [6])
.ret))
theorem ok_50 : FnOk Tryz.prog 50 29 ac_50 [.tmp 6] := ⟨Tryz.f50, Tryz.func50, by kernel_rfl, by kernel_rfl, by kernel_rfl, by kernel_rfl, by kernel_rfl⟩
def ac_46 : AC :=
(.seq (.reg false [⟨some 3, .box 50 (.tmp 0), none, [0], []⟩,
    ⟨some 6, .mv (.const (.slice none 0 0)), none, [], []⟩,
    ⟨some 7, .mv (.const (.int .i64 (0))), none, [], []⟩] [1, 2, 3])
(.seq (.seq (.reg false [⟨some 11, .load true 2 (.tmp 3), none, [3], []⟩,
    ⟨some 12, .call 49 [(.tmp 11)], none, [11], []⟩,
    ⟨some 8, .mv (.tmp 12), none, [12], []⟩] [1, 2, 3, 8])
(.seq (.reg false [⟨some 13, .mv (.tmp 8), none, [8], []⟩,
    ⟨some 14, .bin .neq (.tmp 13) (.const (.int .i64 (0))), none, [13], []⟩] [1, 2, 3, 8, 14])
(.cond (.tmp 14)
(.seq (.reg false [⟨some 15, .mv (.tmp 8), none, [8], []⟩,
    ⟨some 6, .mv (.const (.slice none 0 0)), none, [], []⟩,
    ⟨some 7, .mv (.tmp 15), none, [15], []⟩] [6, 7])
.ret)
.skip)))
(.seq (.seq (.reg false [⟨some 16, .load true 2 (.tmp 3), none, [3], []⟩,
    ⟨some 17, .mv (.tmp 1), none, [1], []⟩,
    ⟨some 18, .mv (.tmp 2), none, [2], []⟩,
    ⟨some 19, .call 50 [(.tmp 16), (.tmp 17), (.tmp 18)], none, [16, 17, 18], []⟩,
    ⟨some 20, .un .not (.tmp 19), none, [19], []⟩] [1, 2, 3, 20])
(.cond (.tmp 20)
(.seq (.reg false [⟨some 6, .mv (.const (.slice none 0 0)), none, [], []⟩,
    ⟨some 7, .mv (.const (.int .i64 (41))), none, [], []⟩] [6, 7])
.ret)
.skip))
(.seq (.reg false [⟨some 9, .mv (.const (.slice none 0 0)), none, [], []⟩] [1, 2, 3, 9])
(.seq (.seq (.reg false [⟨some 21, .mv (.tmp 2), none, [2], []⟩,
    ⟨some 22, .mv (.const (.int .i64 (0))), none, [], []⟩] [1, 3, 9, 21, 22])
(.block 0 (.loop (.seq (.reg false [⟨some 23, .bin .lss (.tmp 22) (.tmp 21), none, [22, 21], []⟩] [1, 3, 9, 21, 22, 23])
(.seq (.cond (.tmp 23)
.skip
(.exit 0))
(.seq (.block 1 (.seq (.reg false [⟨some 24, .mv (.tmp 22), none, [22], []⟩,
    ⟨some 10, .mv (.tmp 24), none, [24], []⟩] [1, 3, 9, 10, 21, 22])
(.reg false [⟨some 25, .mv (.tmp 9), none, [9], []⟩,
    ⟨some 26, .load true 2 (.tmp 3), none, [3], []⟩,
    ⟨some 27, .mv (.tmp 1), none, [1], []⟩,
    ⟨some 28, .mv (.tmp 10), none, [10], []⟩,
    ⟨some 29, .bin .add (.tmp 27) (.tmp 28), none, [27, 28], []⟩,
    ⟨some 30, .call 81 [(.tmp 26), (.tmp 29)], none, [26, 29], []⟩,
    ⟨some 31, .append 5 1 1 (.tmp 25) (.tmp 30), none, [25, 30], []⟩,
    ⟨some 9, .mv (.tmp 31), none, [31], []⟩] [1, 3, 9, 21, 22])))
(.reg false [⟨some 32, .bin .add (.tmp 22) (.const (.int .i64 (1))), none, [22], []⟩,
    ⟨some 22, .mv (.tmp 32), none, [32], []⟩] [1, 3, 9, 21, 22])))))))
(.seq (.reg false [⟨some 33, .mv (.tmp 9), none, [9], []⟩,
    ⟨some 6, .mv (.tmp 33), none, [33], []⟩,
    ⟨some 7, .mv (.const (.int .i64 (0))), none, [], []⟩] [6, 7])
.ret))))))
theorem ok_46 : FnOk Tryz.prog 46 34 ac_46 [.tmp 6, .tmp 7] := ⟨Tryz.f46, Tryz.func46, by kernel_rfl, by kernel_rfl, by kernel_rfl, by kernel_rfl, by kernel_rfl⟩
def ac_28 : AC :=
(.seq (.reg false [⟨some 3, .box 50 (.tmp 0), none, [0], []⟩,
    ⟨some 6, .new 50 [(.slice none 0 0), (.slice none 0 0)], none, [], []⟩,
    ⟨some 7, .mv (.const (.int .i64 (0))), none, [], []⟩] [1, 2, 3, 6])
(.seq (.seq (.reg false [⟨some 10, .load true 2 (.tmp 3), none, [3], []⟩,
    ⟨some 11, .call 49 [(.tmp 10)], none, [10], []⟩,
    ⟨some 8, .mv (.tmp 11), none, [11], []⟩] [1, 2, 3, 6, 8])
(.seq (.reg false [⟨some 12, .mv (.tmp 8), none, [8], []⟩,
    ⟨some 13, .bin .neq (.tmp 12) (.const (.int .i64 (0))), none, [12], []⟩] [1, 2, 3, 6, 8, 13])
(.cond (.tmp 13)
(.seq (.reg false [⟨some 14, .build [(.slice none 0 0), (.slice none 0 0)] [], none, [], []⟩,
    ⟨some 15, .mv (.tmp 8), none, [8], []⟩,
    ⟨none, .store 2 (.tmp 6) (.tmp 14), none, [6, 14], []⟩,
    ⟨some 7, .mv (.tmp 15), none, [15], []⟩] [6, 7])
.ret)
.skip)))
(.seq (.reg false [⟨some 16, .mv (.tmp 2), none, [2], []⟩,
    ⟨some 17, .len false (.tmp 16), none, [16], []⟩,
    ⟨some 18, .bin .add (.tmp 17) (.const (.int .i64 (64))), none, [17], []⟩,
    ⟨some 19, .bin .sub (.tmp 18) (.const (.int .i64 (1))), none, [18], []⟩,
    ⟨some 20, .bin .quo (.tmp 19) (.const (.int .i64 (64))), none, [19], []⟩,
    ⟨some 9, .mv (.tmp 20), none, [20], []⟩] [1, 2, 3, 6, 9])
(.seq (.block 0 (.seq (.reg false [⟨some 22, .load true 2 (.tmp 3), none, [3], []⟩,
    ⟨some 23, .mv (.tmp 1), none, [1], []⟩,
    ⟨some 24, .mv (.tmp 9), none, [9], []⟩,
    ⟨some 25, .call 50 [(.tmp 22), (.tmp 23), (.tmp 24)], none, [22, 23, 24], []⟩,
    ⟨some 26, .un .not (.tmp 25), none, [25], []⟩,
    ⟨some 21, .mv (.tmp 26), none, [26], []⟩] [1, 2, 3, 6, 9, 21])
(.cond (.tmp 21)
(.seq (.reg false [⟨some 27, .build [(.slice none 0 0), (.slice none 0 0)] [], none, [], []⟩,
    ⟨none, .store 2 (.tmp 6) (.tmp 27), none, [6, 27], []⟩,
    ⟨some 7, .mv (.const (.int .i64 (41))), none, [], []⟩] [6, 7])
.ret)
(.seq (.reg false [⟨some 29, .mv (.tmp 9), none, [9], []⟩,
    ⟨some 30, .foff 1 (.tmp 3), none, [3], []⟩,
    ⟨some 31, .load false 1 (.tmp 30), none, [30], []⟩,
    ⟨some 32, .len false (.tmp 31), none, [31], []⟩,
    ⟨some 33, .bin .sub (.const (.int .i64 (4096))) (.tmp 32), none, [32], []⟩,
    ⟨some 34, .bin .gtr (.tmp 29) (.tmp 33), none, [29, 33], []⟩,
    ⟨some 28, .mv (.tmp 34), none, [34], []⟩] [1, 2, 3, 6, 28])
(.cond (.tmp 28)
(.seq (.reg false [⟨some 35, .build [(.slice none 0 0), (.slice none 0 0)] [], none, [], []⟩,
    ⟨none, .store 2 (.tmp 6) (.tmp 35), none, [6, 35], []⟩,
    ⟨some 7, .mv (.const (.int .i64 (51))), none, [], []⟩] [6, 7])
.ret)
.skip)))))
(.seq (.reg false [⟨some 36, .load true 2 (.tmp 3), none, [3], []⟩,
    ⟨some 37, .mv (.tmp 1), none, [1], []⟩,
    ⟨some 38, .mv (.tmp 2), none, [2], []⟩,
    ⟨some 39, .call 51 [(.tmp 36), (.tmp 37), (.tmp 38)], none, [36, 37, 38], []⟩,
    ⟨none, .store 2 (.tmp 6) (.tmp 39), none, [6, 39], []⟩,
    ⟨some 7, .mv (.const (.int .i64 (0))), none, [], []⟩] [6, 7])
.ret)))))
theorem ok_28 : FnOk Tryz.prog 28 40 ac_28 [.cell 6 true 2, .tmp 7] := ⟨Tryz.f28, Tryz.func28, by kernel_rfl, by kernel_rfl, by kernel_rfl, by kernel_rfl, by kernel_rfl⟩
def ac_42 : AC :=
(.seq (.reg false [⟨some 1, .box 50 (.tmp 0), none, [0], []⟩,
    ⟨some 2, .mv (.const (.int .i64 (0))), none, [], []⟩] [1])
(.seq (.seq (.reg false [⟨some 4, .load true 2 (.tmp 1), none, [1], []⟩,
    ⟨some 5, .call 49 [(.tmp 4)], none, [4], []⟩,
    ⟨some 3, .mv (.tmp 5), none, [5], []⟩] [1, 3])
(.seq (.reg false [⟨some 6, .mv (.tmp 3), none, [3], []⟩,
    ⟨some 7, .bin .neq (.tmp 6) (.const (.int .i64 (0))), none, [6], []⟩] [1, 3, 7])
(.cond (.tmp 7)
(.seq (.reg false [⟨some 8, .mv (.tmp 3), none, [3], []⟩,
    ⟨some 2, .mv (.tmp 8), none, [8], []⟩] [2])
.ret)
.skip)))
(.seq (.seq (.reg false [⟨some 9, .foff 0 (.tmp 1), none, [1], []⟩,
    ⟨some 10, .load false 1 (.tmp 9), none, [9], []⟩,
    ⟨some 11, .len false (.tmp 10), none, [10], []⟩,
    ⟨some 12, .bin .lss (.tmp 11) (.const (.int .i64 (16))), none, [11], []⟩] [12])
(.cond (.tmp 12)
(.seq (.reg false [⟨some 2, .mv (.const (.int .i64 (41))), none, [], []⟩] [2])
.ret)
.skip))
(.seq (.reg false [⟨some 2, .mv (.const (.int .i64 (0))), none, [], []⟩] [2])
.ret))))
theorem ok_42 : FnOk Tryz.prog 42 13 ac_42 [.tmp 2] := ⟨Tryz.f42, Tryz.func42, by kernel_rfl, by kernel_rfl, by kernel_rfl, by kernel_rfl, by kernel_rfl⟩
def ac_21 : AC :=
(.seq (.reg false [⟨some 2, .box 50 (.tmp 0), none, [0], []⟩,
    ⟨some 3, .box 25 (.tmp 1), none, [1], []⟩,
    ⟨some 4, .new 50 [(.slice none 0 0), (.slice none 0 0)], none, [], []⟩,
    ⟨some 5, .mv (.const (.int .i64 (0))), none, [], []⟩] [2, 3, 4])
(.seq (.seq (.reg false [⟨some 9, .load true 2 (.tmp 2), none, [2], []⟩,
    ⟨some 10, .call 42 [(.tmp 9)], none, [9], []⟩,
    ⟨some 6, .mv (.tmp 10), none, [10], []⟩] [2, 3, 4, 6])
(.seq (.reg false [⟨some 11, .mv (.tmp 6), none, [6], []⟩,
    ⟨some 12, .bin .neq (.tmp 11) (.const (.int .i64 (0))), none, [11], []⟩] [2, 3, 4, 6, 12])
(.cond (.tmp 12)
(.seq (.reg false [⟨some 13, .build [(.slice none 0 0), (.slice none 0 0)] [], none, [], []⟩,
    ⟨some 14, .mv (.tmp 6), none, [6], []⟩,
    ⟨none, .store 2 (.tmp 4) (.tmp 13), none, [4, 13], []⟩,
    ⟨some 5, .mv (.tmp 14), none, [14], []⟩] [4, 5])
.ret)
.skip)))
(.seq (.reg false [⟨some 16, .load true 5 (.tmp 3), none, [3], []⟩,
    ⟨some 17, .call 10 [(.tmp 16)], none, [16], []⟩,
    ⟨some 15, .mv (.tmp 17), none, [17], []⟩,
    ⟨some 18, .ext 0 (.tmp 15), none, [15], []⟩,
    ⟨some 19, .ext 1 (.tmp 15), none, [15], []⟩,
    ⟨some 7, .mv (.tmp 18), none, [18], []⟩,
    ⟨some 8, .mv (.tmp 19), none, [19], []⟩] [2, 3, 4, 7, 8])
(.seq (.seq (.reg false [⟨some 20, .mv (.tmp 8), none, [8], []⟩,
    ⟨some 21, .bin .neq (.tmp 20) (.const (.int .i64 (0))), none, [20], []⟩] [2, 3, 4, 7, 8, 21])
(.cond (.tmp 21)
(.seq (.reg false [⟨some 22, .build [(.slice none 0 0), (.slice none 0 0)] [], none, [], []⟩,
    ⟨some 23, .mv (.tmp 8), none, [8], []⟩,
    ⟨none, .store 2 (.tmp 4) (.tmp 22), none, [4, 22], []⟩,
    ⟨some 5, .mv (.tmp 23), none, [23], []⟩] [4, 5])
.ret)
.skip))
(.seq (.seq (.reg false [⟨some 25, .load true 2 (.tmp 2), none, [2], []⟩,
    ⟨some 26, .foff 0 (.tmp 3), none, [3], []⟩,
    ⟨some 27, .load false 1 (.tmp 26), none, [26], []⟩,
    ⟨some 28, .bin .rem (.tmp 27) (.const (.int .i64 (2))), none, [27], []⟩,
    ⟨some 29, .bin .mul (.tmp 28) (.const (.int .i64 (8))), none, [28], []⟩,
    ⟨some 30, .mv (.tmp 7), none, [7], []⟩,
    ⟨some 31, .call 28 [(.tmp 25), (.tmp 29), (.tmp 30)], none, [25, 29, 30], []⟩,
    ⟨some 24, .mv (.tmp 31), none, [31], []⟩,
    ⟨some 32, .ext 0 (.tmp 24), none, [24], []⟩,
    ⟨some 33, .ext 1 (.tmp 24), none, [24], []⟩,
    ⟨none, .store 2 (.tmp 2) (.tmp 32), none, [2, 32], []⟩,
    ⟨some 8, .mv (.tmp 33), none, [33], []⟩] [2, 4, 8])
(.seq (.reg false [⟨some 34, .mv (.tmp 8), none, [8], []⟩,
    ⟨some 35, .bin .neq (.tmp 34) (.const (.int .i64 (0))), none, [34], []⟩] [2, 4, 8, 35])
(.cond (.tmp 35)
(.seq (.reg false [⟨some 36, .build [(.slice none 0 0), (.slice none 0 0)] [], none, [], []⟩,
    ⟨some 37, .mv (.tmp 8), none, [8], []⟩,
    ⟨none, .store 2 (.tmp 4) (.tmp 36), none, [4, 36], []⟩,
    ⟨some 5, .mv (.tmp 37), none, [37], []⟩] [4, 5])
.ret)
.skip)))
(.seq (.reg false [⟨some 38, .load true 2 (.tmp 2), none, [2], []⟩,
    ⟨some 39, .call 43 [(.tmp 38)], none, [38], []⟩,
    ⟨some 40, .ext 0 (.tmp 39), none, [39], []⟩,
    ⟨some 41, .ext 1 (.tmp 39), none, [39], []⟩,
    ⟨none, .store 2 (.tmp 4) (.tmp 40), none, [4, 40], []⟩,
    ⟨some 5, .mv (.tmp 41), none, [41], []⟩] [4, 5])
.ret))))))
theorem ok_21 : FnOk Tryz.prog 21 42 ac_21 [.cell 4 true 2, .tmp 5] := ⟨Tryz.f21, Tryz.func21, by kernel_rfl, by kernel_rfl, by kernel_rfl, by kernel_rfl, by kernel_rfl⟩
def ac_23 : AC :=
(.seq (.reg false [⟨some 1, .box 50 (.tmp 0), none, [0], []⟩,
    ⟨some 2, .new 25 [(.int .i64 (0)), (.int .i64 (0)), (.int .i64 (0)), (.int .i64 (0)), (.slice none 0 0)], none, [], []⟩,
    ⟨some 3, .mv (.const (.int .i64 (0))), none, [], []⟩] [1, 2])
(.seq (.seq (.reg false [⟨some 12, .load true 2 (.tmp 1), none, [1], []⟩,
    ⟨some 13, .call 42 [(.tmp 12)], none, [12], []⟩,
    ⟨some 4, .mv (.tmp 13), none, [13], []⟩] [1, 2, 4])
(.seq (.reg false [⟨some 14, .mv (.tmp 4), none, [4], []⟩,
    ⟨some 15, .bin .neq (.tmp 14) (.const (.int .i64 (0))), none, [14], []⟩] [1, 2, 4, 15])
(.cond (.tmp 15)
(.seq (.reg false [⟨some 16, .build [(.int .i64 (0)), (.int .i64 (0)), (.int .i64 (0)), (.int .i64 (0)), (.slice none 0 0)] [], none, [], []⟩,
    ⟨some 17, .mv (.tmp 4), none, [4], []⟩,
    ⟨none, .store 5 (.tmp 2) (.tmp 16), none, [2, 16], []⟩,
    ⟨some 3, .mv (.tmp 17), none, [17], []⟩] [2, 3])
.ret)
.skip)))
(.seq (.reg false [⟨some 18, .build [(.int .i64 (0)), (.int .i64 (0)), (.int .i64 (0)), (.int .i64 (0)), (.slice none 0 0)] [], none, [], []⟩,
    ⟨some 5, .new 25 [(.int .i64 (0)), (.int .i64 (0)), (.int .i64 (0)), (.int .i64 (0)), (.slice none 0 0)], none, [], []⟩,
    ⟨none, .store 5 (.tmp 5) (.tmp 18), none, [5, 18], []⟩,
    ⟨some 6, .mv (.const (.int .i64 (21))), none, [], []⟩] [1, 2, 5, 6])
(.seq (.seq (.reg false [⟨some 19, .mv (.const (.int .i64 (0))), none, [], []⟩] [1, 2, 5, 6, 19])
(.block 0 (.loop (.seq (.reg false [⟨some 20, .bin .lss (.tmp 19) (.const (.int .i64 (2))), none, [19], []⟩] [1, 2, 5, 6, 19, 20])
(.seq (.cond (.tmp 20)
.skip
(.exit 0))
(.seq (.block 1 (.seq (.reg false [⟨some 21, .mv (.tmp 19), none, [19], []⟩,
    ⟨some 7, .mv (.tmp 21), none, [21], []⟩] [1, 2, 5, 6, 7, 19])
(.seq (.reg false [⟨some 23, .load true 2 (.tmp 1), none, [1], []⟩,
    ⟨some 24, .mv (.tmp 7), none, [7], []⟩,
    ⟨some 25, .bin .mul (.tmp 24) (.const (.int .i64 (8))), none, [24], []⟩,
    ⟨some 26, .call 46 [(.tmp 23), (.tmp 25), (.const (.int .i64 (8)))], none, [23, 25], []⟩,
    ⟨some 22, .mv (.tmp 26), none, [26], []⟩,
    ⟨some 27, .ext 0 (.tmp 22), none, [22], []⟩,
    ⟨some 28, .ext 1 (.tmp 22), none, [22], []⟩,
    ⟨some 8, .mv (.tmp 27), none, [27], []⟩,
    ⟨some 9, .mv (.tmp 28), none, [28], []⟩] [1, 2, 5, 6, 8, 19])
(.seq (.reg false [⟨some 30, .mv (.tmp 8), none, [8], []⟩,
    ⟨some 31, .call 12 [(.tmp 30)], none, [30], []⟩,
    ⟨some 29, .mv (.tmp 31), none, [31], []⟩,
    ⟨some 32, .ext 0 (.tmp 29), none, [29], []⟩,
    ⟨some 33, .ext 1 (.tmp 29), none, [29], []⟩,
    ⟨some 10, .new 25 [(.int .i64 (0)), (.int .i64 (0)), (.int .i64 (0)), (.int .i64 (0)), (.slice none 0 0)], none, [], []⟩,
    ⟨none, .store 5 (.tmp 10) (.tmp 32), none, [10, 32], []⟩,
    ⟨some 11, .mv (.tmp 33), none, [33], []⟩] [1, 2, 5, 6, 10, 11, 19])
(.seq (.reg false [⟨some 34, .mv (.tmp 11), none, [11], []⟩,
    ⟨some 35, .bin .eql (.tmp 34) (.const (.int .i64 (0))), none, [34], []⟩,
    ⟨some 36, .mv (.tmp 35), none, [35], []⟩,
    ⟨some 37, .mv (.tmp 6), some (36, true), [6, 36], []⟩,
    ⟨some 38, .bin .neq (.tmp 37) (.const (.int .i64 (0))), some (36, true), [37, 36], []⟩,
    ⟨some 39, .mv (.tmp 38), some (36, true), [38, 36], []⟩,
    ⟨some 40, .foff 0 (.tmp 10), some (39, false), [10, 39], []⟩,
    ⟨some 41, .load false 1 (.tmp 40), some (39, false), [40, 39], []⟩,
    ⟨some 42, .foff 0 (.tmp 5), some (39, false), [5, 39], []⟩,
    ⟨some 43, .load false 1 (.tmp 42), some (39, false), [42, 39], []⟩,
    ⟨some 44, .bin .gtr (.tmp 41) (.tmp 43), some (39, false), [41, 43, 39], []⟩,
    ⟨some 45, .pick (.tmp 39) (.const (.bool true)) (.tmp 44), some (36, true), [39, 44, 36], []⟩,
    ⟨some 46, .pick (.tmp 36) (.tmp 45) (.const (.bool false)), none, [36, 45], []⟩] [1, 2, 5, 6, 10, 19, 46])
(.cond (.tmp 46)
(.reg false [⟨some 47, .load true 5 (.tmp 10), none, [10], []⟩,
    ⟨none, .store 5 (.tmp 5) (.tmp 47), none, [5, 47], []⟩,
    ⟨some 6, .mv (.const (.int .i64 (0))), none, [], []⟩] [1, 2, 5, 6, 19])
.skip))))))
(.reg false [⟨some 48, .bin .add (.tmp 19) (.const (.int .i64 (1))), none, [19], []⟩,
    ⟨some 19, .mv (.tmp 48), none, [48], []⟩] [1, 2, 5, 6, 19])))))))
(.seq (.reg false [⟨some 49, .load true 5 (.tmp 5), none, [5], []⟩,
    ⟨some 50, .mv (.tmp 6), none, [6], []⟩,
    ⟨none, .store 5 (.tmp 2) (.tmp 49), none, [2, 49], []⟩,
    ⟨some 3, .mv (.tmp 50), none, [50], []⟩] [2, 3])
.ret)))))
theorem ok_23 : FnOk Tryz.prog 23 51 ac_23 [.cell 2 true 5, .tmp 3] := ⟨Tryz.f23, Tryz.func23, by kernel_rfl, by kernel_rfl, by kernel_rfl, by kernel_rfl, by kernel_rfl⟩
end Go.Proofs.YtdenddhdeloceaaGreatDoor
/- Contracts: the program's disk: sectors of zeros; is there room. -/
namespace Go.Proofs.YtdenddhdeloceaaGreatDoor
open Go.RowKit
set_option maxRecDepth 100000
def zs : List Int := List.replicate 64 0
def zerosD (n : Nat) : Dk := ⟨List.replicate n zs, []⟩
abbrev zP : AObj := .row true 50 [.v (.slice none 0 0), .v (.slice none 0 0)]
abbrev L_nw (n i : Nat) : ASt := ⟨envOf [(2, .op 0 0), (4, .op 1 0), (12, .v (.int .i64 n)), (13, .v (.int .i64 i))],
  heapOf [(0, zP), (1, .row true 50 [.os 2 0 i 1, .v (.slice none 0 0)]), (2, .row true 22 (eL true (List.replicate i zs)))], 3⟩
theorem imp_zeros (n : Nat) : Imp (.tup [.agg [fL true (List.replicate n zs), .v (.slice none 0 0)], .v (.int .i64 0)]) (.tup [aDk true (zerosD n), .v (.int .i64 0)]) :=
  Imp.tupL ⟨Imp.aggL ⟨Imp.refl _, Imp.nil true, trivial⟩, Imp.refl _, trivial⟩
set_option maxHeartbeats 1000000 in
theorem new_spec (n : Nat) (nb : Nat) (h1 : 1 ≤ n) (h2 : n ≤ 2048) : ASound Tryz.prog 26 [.v (.int .i64 n)] nb (.ret (.tup [aDk true (zerosD n), .v (.int .i64 0)]) []) := by
  refine ok_26.sound (by simp) ⟨trivial, trivial⟩ ?_
  have f1 : ¬ ((n : Int) < 1) := by omega
  have f2 : ¬ ((2048 : Int) < (n : Int)) := by omega
  have t6 : Int.toNat 64 = 64 := rfl
  simp only [ac_26, f1, f2, TT, ↓reduceIte, Nat.reduceEqDiff, Nat.reduceAdd, Nat.reduceMul, reduceCtorEq, Nat.reduceLeDiff]
  refine AWc.family (L_nw n) (fun i => i ≤ n) (fun i => n - i) 0 (Nat.zero_le _) ?_ ?_
  · refine Weak.trans (Weak.virtC 22 1 (l := [(2, .op 0 0), (4, .op 800000 0), (12, .v (.int .i64 n)), (13, .v (.int .i64 0))])
      (h := [(0, zP), (800000, .row true 50 [.os 1100000 0 0 1, .v (.slice none 0 0)])]) ?_ ?_) (Weak.calc [(0, 0), (800000, 1), (1100000, 2)] (by decide) ?_ ?_)
    all_goals simp [WT, eL]
  · intro i hi
    by_cases hlt : i < n
    · have e1 : ((i : Int) < (n : Int)) := by omega
      have hl : (eL true (List.replicate i zs)).length = i := by rw [len_L, List.length_replicate]
      have hcs : eL true (List.replicate i zs) ++ [AV.fs true (eB zs) 64] = eL true (List.replicate (i + 1) zs) := by rw [List.replicate_succ', app_L]; rfl
      have hz : eB (List.replicate 64 0) = eB zs := rfl
      simp only [L_nw, e1, t6, rep_B, hz, hl, TT, ↓reduceIte, Nat.reduceEqDiff, Nat.reduceAdd, Nat.reduceMul, reduceCtorEq, Nat.reduceLeDiff]
      rw [if_pos (by decide), if_pos (by omega)]
      refine ⟨by rfl, ?_⟩
      refine famC_next (i + 1) (by omega) (by omega) ?_
      refine Weak.trans (Weak.freezeC 300003 rfl (l := [(2, .op 0 0), (4, .op 1 0), (12, .v (.int .i64 n)), (13, .v (.int .i64 (IntKind.i64.wrap ((i : Int) + 1))))])
        (h := [(0, zP), (1, .row true 50 [.os 500003 0 (i + 1) 1, .v (.slice none 0 0)]), (500003, .row true 22 (eL true (List.replicate i zs) ++ [.fs true (eB zs) 64]))]) ?_ ?_) ?_
      · simp [WT]
      · have htz : List.take 64 (eB zs) = eB zs := rfl
        simp [WT, htz]
        refine .inr ⟨i, 64, 1, ?_, ?_⟩
        · rw [List.getElem?_append_right (by omega), hl, Nat.sub_self]; rfl
        · rw [List.set_append, if_neg (by omega), hl, Nat.sub_self]; rfl
      · rw [hcs]
        refine Weak.calc [(0, 0), (1, 1), (500003, 2)] (by decide) ?_ ?_ <;> simp [WT, wrap64 (x := (i : Int) + 1) (by omega)]
    · obtain rfl : i = n := by omega
      have e1 : ¬ ((i : Int) < (i : Int)) := by omega
      simp only [L_nw, e1, TT, ↓reduceIte, Nat.reduceEqDiff, Nat.reduceAdd, Nat.reduceMul, reduceCtorEq, Nat.reduceLeDiff]
      refine Ends.weak (Weak.freezeC 2 rfl (l := [(2, .op 0 0), (3, .v (.int .i64 0))]) (h := [(0, .row true 50 [fL true (List.replicate i zs), .v (.slice none 0 0)])]) ?_ ?_) (Ends.imp (r0 := .tup [.agg [fL true (List.replicate i zs), .v (.slice none 0 0)], .v (.int .i64 0)]) (.inr rfl) (by simp [ET]) ⟨⟨al_fL _, trivial, trivial⟩, trivial, trivial⟩ (imp_zeros i))
      · simp [WT]
      · have htk : List.take i (eL true (List.replicate i zs)) = eL true (List.replicate i zs) := List.take_of_length_le (by rw [len_L, List.length_replicate]; exact Nat.le_refl _)
        simp [WT, htk]
theorem room_spec (fr : Bool) (d : Dk) (s n : Int) (nb : Nat) (h : d.sectors.length ≤ 2048) (hs : s ≤ 4096 ∧ -4096 ≤ s) : ASound Tryz.prog 50 [aDk fr d, .v (.int .i64 s), .v (.int .i64 n)] nb (.ret (.v (.bool (decide (0 ≤ s ∧ 0 ≤ n ∧ s ≤ d.sectors.length ∧ n ≤ d.sectors.length - s)))) []) := by
  refine ok_50.sound (by simp) ⟨al_aDk d, trivial, trivial, trivial⟩ ?_
  have w1 : IntKind.i64.wrap ((d.sectors.length : Int) - s) = (d.sectors.length : Int) - s := wrap64 (by omega)
  by_cases h1 : 0 ≤ s
  · by_cases h2 : 0 ≤ n
    · by_cases h3 : s ≤ (d.sectors.length : Int)
      · simp only [ac_50, h1, h2, h3, w1, TT, ↓reduceIte, Nat.reduceEqDiff, Nat.reduceAdd, Nat.reduceMul, reduceCtorEq, Nat.reduceLeDiff]
        exact Ends.data (.inr rfl) (by simp [ET]) trivial
      · have : ¬ (0 ≤ s ∧ 0 ≤ n ∧ s ≤ (d.sectors.length : Int) ∧ n ≤ d.sectors.length - s) := fun h => h3 h.2.2.1
        simp only [ac_50, h1, h2, h3, TT, ↓reduceIte, Nat.reduceEqDiff, Nat.reduceAdd, Nat.reduceMul, reduceCtorEq, Nat.reduceLeDiff]
        exact Ends.data (.inr rfl) (by simp [ET]) trivial
    · simp only [ac_50, h1, h2, TT, ↓reduceIte, Nat.reduceEqDiff, Nat.reduceAdd, Nat.reduceMul, reduceCtorEq, Nat.reduceLeDiff]
      exact Ends.data (.inr rfl) (by simp [ET]) trivial
  · simp only [ac_50, h1, TT, ↓reduceIte, Nat.reduceEqDiff, Nat.reduceAdd, Nat.reduceMul, reduceCtorEq, Nat.reduceLeDiff]
    exact Ends.data (.inr rfl) (by simp [ET]) trivial
end Go.Proofs.YtdenddhdeloceaaGreatDoor
/- Functions of the program, compiled. -/
namespace Go.Proofs.YtdenddhdeloceaaGreatDoor
set_option maxRecDepth 100000
def ac_49 : AC :=
(.seq (.reg false [⟨some 1, .box 50 (.tmp 0), none, [0], []⟩,
    ⟨some 2, .mv (.const (.int .i64 (0))), none, [], []⟩] [1])
(.seq (.reg false [⟨some 3, .new 134 [.nilFunc], none, [], []⟩,
    ⟨none, .store 1 (.tmp 3) (.func 83), none, [3], []⟩] [1, 3])
(.seq (.reg false [⟨some 5, .clo 84 [(.tmp 1), (.tmp 3)], none, [1, 3], []⟩,
    ⟨some 4, .mv (.tmp 5), none, [5], []⟩] [1, 3, 4])
(.seq (.seq (.reg false [⟨some 6, .foff 0 (.tmp 1), none, [1], []⟩,
    ⟨some 7, .load false 1 (.tmp 6), none, [6], []⟩,
    ⟨some 8, .len false (.tmp 7), none, [7], []⟩,
    ⟨some 9, .bin .lss (.tmp 8) (.const (.int .i64 (1))), none, [8], []⟩,
    ⟨some 10, .mv (.tmp 9), none, [9], []⟩,
    ⟨some 11, .foff 0 (.tmp 1), some (10, false), [1, 10], []⟩,
    ⟨some 12, .load false 1 (.tmp 11), some (10, false), [11, 10], []⟩,
    ⟨some 13, .len false (.tmp 12), some (10, false), [12, 10], []⟩,
    ⟨some 14, .bin .gtr (.tmp 13) (.const (.int .i64 (2048))), some (10, false), [13, 10], []⟩,
    ⟨some 15, .pick (.tmp 10) (.const (.bool true)) (.tmp 14), none, [10, 14], []⟩,
    ⟨some 16, .mv (.tmp 15), none, [15], []⟩,
    ⟨some 17, .foff 1 (.tmp 1), some (16, false), [1, 16], []⟩,
    ⟨some 18, .load false 1 (.tmp 17), some (16, false), [17, 16], []⟩,
    ⟨some 19, .len false (.tmp 18), some (16, false), [18, 16], []⟩,
    ⟨some 20, .bin .gtr (.tmp 19) (.const (.int .i64 (4096))), some (16, false), [19, 16], []⟩,
    ⟨some 21, .pick (.tmp 16) (.const (.bool true)) (.tmp 20), none, [16, 20], []⟩,
    ⟨some 22, .mv (.tmp 21), none, [21], []⟩,
    ⟨some 23, .foff 0 (.tmp 1), some (22, false), [1, 22], []⟩,
    ⟨some 24, .load false 1 (.tmp 23), some (22, false), [23, 22], []⟩,
    ⟨some 25, .load false 1 (.tmp 3), some (22, false), [3, 22], []⟩,
    ⟨some 26, .call 85 [(.tmp 24), (.tmp 25)], some (22, false), [24, 25, 22], []⟩,
    ⟨some 27, .pick (.tmp 22) (.const (.bool true)) (.tmp 26), none, [22, 26], []⟩,
    ⟨some 28, .mv (.tmp 27), none, [27], []⟩,
    ⟨some 29, .foff 1 (.tmp 1), some (28, false), [1, 28], []⟩,
    ⟨some 30, .load false 1 (.tmp 29), some (28, false), [29, 28], []⟩,
    ⟨some 31, .mv (.tmp 4), some (28, false), [4, 28], []⟩,
    ⟨some 32, .call 86 [(.tmp 30), (.tmp 31)], some (28, false), [30, 31, 28], []⟩,
    ⟨some 33, .pick (.tmp 28) (.const (.bool true)) (.tmp 32), none, [28, 32], []⟩] [33])
(.cond (.tmp 33)
(.seq (.reg false [⟨some 2, .mv (.const (.int .i64 (9))), none, [], []⟩] [2])
.ret)
.skip))
(.seq (.reg false [⟨some 2, .mv (.const (.int .i64 (0))), none, [], []⟩] [2])
.ret)))))
theorem ok_49 : FnOk Tryz.prog 49 34 ac_49 [.tmp 2] := ⟨Tryz.f49, Tryz.func49, by kernel_rfl, by kernel_rfl, by kernel_rfl, by kernel_rfl, by kernel_rfl⟩
def ac_83 : AC :=
(.seq (.reg false [⟨some 2, .mv (.const (.bool false)), none, [], []⟩] [0])
(.seq (.reg false [⟨some 3, .mv (.tmp 0), none, [0], []⟩,
    ⟨some 4, .len false (.tmp 3), none, [3], []⟩,
    ⟨some 5, .bin .neq (.tmp 4) (.const (.int .i64 (64))), none, [4], []⟩,
    ⟨some 2, .mv (.tmp 5), none, [5], []⟩] [2])
.ret))
theorem ok_83 : FnOk Tryz.prog 83 6 ac_83 [.tmp 2] := ⟨Tryz.f83, Tryz.func83, by kernel_rfl, by kernel_rfl, by kernel_rfl, by kernel_rfl, by kernel_rfl⟩
def ac_84 : AC :=
(.seq (.reg false [⟨some 3, .box 90 (.tmp 0), none, [0], []⟩,
    ⟨some 4, .mv (.const (.bool false)), none, [], []⟩] [1, 2, 3])
(.seq (.reg false [⟨some 5, .foff 0 (.tmp 3), none, [3], []⟩,
    ⟨some 6, .load false 1 (.tmp 5), none, [5], []⟩,
    ⟨some 7, .bin .lss (.tmp 6) (.const (.int .i64 (0))), none, [6], []⟩,
    ⟨some 8, .mv (.tmp 7), none, [7], []⟩,
    ⟨some 9, .foff 0 (.tmp 3), some (8, false), [3, 8], []⟩,
    ⟨some 10, .load false 1 (.tmp 9), some (8, false), [9, 8], []⟩,
    ⟨some 11, .foff 0 (.tmp 1), some (8, false), [1, 8], []⟩,
    ⟨some 12, .load false 1 (.tmp 11), some (8, false), [11, 8], []⟩,
    ⟨some 13, .len false (.tmp 12), some (8, false), [12, 8], []⟩,
    ⟨some 14, .bin .geq (.tmp 10) (.tmp 13), some (8, false), [10, 13, 8], []⟩,
    ⟨some 15, .pick (.tmp 8) (.const (.bool true)) (.tmp 14), none, [8, 14], []⟩,
    ⟨some 16, .mv (.tmp 15), none, [15], []⟩,
    ⟨some 17, .load false 1 (.tmp 2), some (16, false), [2, 16], []⟩,
    ⟨some 18, .foff 1 (.tmp 3), some (16, false), [3, 16], []⟩,
    ⟨some 19, .load false 1 (.tmp 18), some (16, false), [18, 16], []⟩,
    ⟨some 20, .callv (.tmp 17) [(.tmp 19)], some (16, false), [17, 19, 16], []⟩,
    ⟨some 21, .pick (.tmp 16) (.const (.bool true)) (.tmp 20), none, [16, 20], []⟩,
    ⟨some 4, .mv (.tmp 21), none, [21], []⟩] [4])
.ret))
theorem ok_84 : FnOk Tryz.prog 84 22 ac_84 [.tmp 4] := ⟨Tryz.f84, Tryz.func84, by kernel_rfl, by kernel_rfl, by kernel_rfl, by kernel_rfl, by kernel_rfl⟩
def ac_85 : AC :=
(.seq (.reg false [⟨some 4, .mv (.const (.bool false)), none, [], []⟩] [0, 1])
(.seq (.reg false [⟨some 5, .mv (.tmp 0), none, [0], []⟩,
    ⟨some 6, .mv (.tmp 1), none, [1], []⟩,
    ⟨some 7, .call 105 [(.tmp 5), (.tmp 6)], none, [5, 6], []⟩,
    ⟨some 8, .bin .geq (.tmp 7) (.const (.int .i64 (0))), none, [7], []⟩,
    ⟨some 4, .mv (.tmp 8), none, [8], []⟩] [4])
.ret))
theorem ok_85 : FnOk Tryz.prog 85 9 ac_85 [.tmp 4] := ⟨Tryz.f85, Tryz.func85, by kernel_rfl, by kernel_rfl, by kernel_rfl, by kernel_rfl, by kernel_rfl⟩
def ac_86 : AC :=
(.seq (.reg false [⟨some 4, .mv (.const (.bool false)), none, [], []⟩] [0, 1])
(.seq (.reg false [⟨some 5, .mv (.tmp 0), none, [0], []⟩,
    ⟨some 6, .mv (.tmp 1), none, [1], []⟩,
    ⟨some 7, .call 106 [(.tmp 5), (.tmp 6)], none, [5, 6], []⟩,
    ⟨some 8, .bin .geq (.tmp 7) (.const (.int .i64 (0))), none, [7], []⟩,
    ⟨some 4, .mv (.tmp 8), none, [8], []⟩] [4])
.ret))
theorem ok_86 : FnOk Tryz.prog 86 9 ac_86 [.tmp 4] := ⟨Tryz.f86, Tryz.func86, by kernel_rfl, by kernel_rfl, by kernel_rfl, by kernel_rfl, by kernel_rfl⟩
def ac_105 : AC :=
(.seq (.reg false [⟨some 4, .mv (.const (.int .i64 (0))), none, [], []⟩] [0, 1])
(.seq (.seq (.reg false [⟨some 6, .mv (.tmp 0), none, [0], []⟩,
    ⟨some 7, .len false (.tmp 6), none, [6], []⟩,
    ⟨some 8, .mv (.const (.int .i64 (0))), none, [], []⟩] [0, 1, 7, 8])
(.block 0 (.loop (.seq (.reg false [⟨some 9, .bin .lss (.tmp 8) (.tmp 7), none, [8, 7], []⟩] [0, 1, 7, 8, 9])
(.seq (.cond (.tmp 9)
.skip
(.exit 0))
(.seq (.block 1 (.seq (.reg false [⟨some 10, .mv (.tmp 8), none, [8], []⟩,
    ⟨some 5, .mv (.tmp 10), none, [10], []⟩] [0, 1, 5, 7, 8])
(.seq (.reg false [⟨some 11, .mv (.tmp 1), none, [1], []⟩,
    ⟨some 12, .mv (.tmp 0), none, [0], []⟩,
    ⟨some 13, .mv (.tmp 5), none, [5], []⟩,
    ⟨some 14, .idx 1 (.tmp 12) (.tmp 13), none, [12, 13], []⟩,
    ⟨some 15, .load false 1 (.tmp 14), none, [14], []⟩,
    ⟨some 16, .callv (.tmp 11) [(.tmp 15)], none, [11, 15], []⟩] [0, 1, 5, 7, 8, 16])
(.cond (.tmp 16)
(.seq (.reg false [⟨some 17, .mv (.tmp 5), none, [5], []⟩,
    ⟨some 4, .mv (.tmp 17), none, [17], []⟩] [4])
.ret)
.skip))))
(.reg false [⟨some 18, .bin .add (.tmp 8) (.const (.int .i64 (1))), none, [8], []⟩,
    ⟨some 8, .mv (.tmp 18), none, [18], []⟩] [0, 1, 7, 8])))))))
(.seq (.reg false [⟨some 4, .mv (.const (.int .i64 (-1))), none, [], []⟩] [4])
.ret)))
theorem ok_105 : FnOk Tryz.prog 105 19 ac_105 [.tmp 4] := ⟨Tryz.f105, Tryz.func105, by kernel_rfl, by kernel_rfl, by kernel_rfl, by kernel_rfl, by kernel_rfl⟩
def ac_106 : AC :=
(.seq (.reg false [⟨some 4, .mv (.const (.int .i64 (0))), none, [], []⟩] [0, 1])
(.seq (.seq (.reg false [⟨some 6, .mv (.tmp 0), none, [0], []⟩,
    ⟨some 7, .len false (.tmp 6), none, [6], []⟩,
    ⟨some 8, .mv (.const (.int .i64 (0))), none, [], []⟩] [0, 1, 7, 8])
(.block 0 (.loop (.seq (.reg false [⟨some 9, .bin .lss (.tmp 8) (.tmp 7), none, [8, 7], []⟩] [0, 1, 7, 8, 9])
(.seq (.cond (.tmp 9)
.skip
(.exit 0))
(.seq (.block 1 (.seq (.reg false [⟨some 10, .mv (.tmp 8), none, [8], []⟩,
    ⟨some 5, .mv (.tmp 10), none, [10], []⟩] [0, 1, 5, 7, 8])
(.seq (.reg false [⟨some 11, .mv (.tmp 1), none, [1], []⟩,
    ⟨some 12, .mv (.tmp 0), none, [0], []⟩,
    ⟨some 13, .mv (.tmp 5), none, [5], []⟩,
    ⟨some 14, .idx 2 (.tmp 12) (.tmp 13), none, [12, 13], []⟩,
    ⟨some 15, .load true 2 (.tmp 14), none, [14], []⟩,
    ⟨some 16, .callv (.tmp 11) [(.tmp 15)], none, [11, 15], []⟩] [0, 1, 5, 7, 8, 16])
(.cond (.tmp 16)
(.seq (.reg false [⟨some 17, .mv (.tmp 5), none, [5], []⟩,
    ⟨some 4, .mv (.tmp 17), none, [17], []⟩] [4])
.ret)
.skip))))
(.reg false [⟨some 18, .bin .add (.tmp 8) (.const (.int .i64 (1))), none, [8], []⟩,
    ⟨some 8, .mv (.tmp 18), none, [18], []⟩] [0, 1, 7, 8])))))))
(.seq (.reg false [⟨some 4, .mv (.const (.int .i64 (-1))), none, [], []⟩] [4])
.ret)))
theorem ok_106 : FnOk Tryz.prog 106 19 ac_106 [.tmp 4] := ⟨Tryz.f106, Tryz.func106, by kernel_rfl, by kernel_rfl, by kernel_rfl, by kernel_rfl, by kernel_rfl⟩
def ac_87 : AC :=
(.seq (.reg false [⟨some 1, .box 50 (.tmp 0), none, [0], []⟩,
    ⟨some 2, .new 50 [(.slice none 0 0), (.slice none 0 0)], none, [], []⟩] [1, 2])
(.seq (.reg true [⟨some 6, .foff 0 (.tmp 1), none, [1], []⟩,
    ⟨some 7, .load false 1 (.tmp 6), none, [6], [0]⟩,
    ⟨some 8, .call 107 [(.tmp 7)], none, [7], [1, 0]⟩,
    ⟨some 9, .foff 1 (.tmp 1), none, [1], []⟩,
    ⟨some 10, .load false 1 (.tmp 9), none, [9], [3]⟩,
    ⟨some 11, .call 108 [(.tmp 10)], none, [10], [4, 2, 3, 1, 0]⟩,
    ⟨some 12, .build [(.slice none 0 0), (.slice none 0 0)] [(0, 1, (.tmp 8)), (1, 1, (.tmp 11))], none, [8, 11], [2, 5, 1, 0, 4, 3]⟩,
    ⟨some 3, .new 50 [(.slice none 0 0), (.slice none 0 0)], none, [], []⟩,
    ⟨none, .store 2 (.tmp 3) (.tmp 12), none, [3, 12], [7, 6, 5, 0, 1, 2, 3, 4]⟩] [2, 3])
(.seq (.seq (.reg false [⟨some 13, .foff 0 (.tmp 3), none, [3], []⟩,
    ⟨some 14, .load false 1 (.tmp 13), none, [13], []⟩,
    ⟨some 15, .len false (.tmp 14), none, [14], []⟩,
    ⟨some 16, .mv (.const (.int .i64 (0))), none, [], []⟩] [2, 3, 15, 16])
(.block 0 (.loop (.seq (.reg false [⟨some 17, .bin .lss (.tmp 16) (.tmp 15), none, [16, 15], []⟩] [2, 3, 15, 16, 17])
(.seq (.cond (.tmp 17)
.skip
(.exit 0))
(.seq (.block 1 (.seq (.reg false [⟨some 18, .mv (.tmp 16), none, [16], []⟩,
    ⟨some 4, .mv (.tmp 18), none, [18], []⟩] [2, 3, 4, 15, 16])
(.reg true [⟨some 19, .foff 0 (.tmp 3), none, [3], []⟩,
    ⟨some 20, .load false 1 (.tmp 19), none, [19], [0]⟩,
    ⟨some 21, .mv (.tmp 4), none, [4], []⟩,
    ⟨some 22, .foff 0 (.tmp 3), none, [3], []⟩,
    ⟨some 23, .load false 1 (.tmp 22), none, [22], [3]⟩,
    ⟨some 24, .mv (.tmp 4), none, [4], []⟩,
    ⟨some 25, .idx 1 (.tmp 23) (.tmp 24), none, [23, 24], [4, 5, 3]⟩,
    ⟨some 26, .load false 1 (.tmp 25), none, [25], [6, 4, 5, 3]⟩,
    ⟨some 27, .call 95 [(.tmp 26)], none, [26], [7, 6, 4, 5, 3]⟩,
    ⟨some 28, .idx 1 (.tmp 20) (.tmp 21), none, [20, 21], [1, 2, 0, 3, 4, 5, 6, 7, 8]⟩,
    ⟨none, .store 1 (.tmp 28) (.tmp 27), none, [28, 27], [9, 8, 0, 1, 2, 3, 4, 5, 6, 7]⟩] [2, 3, 15, 16])))
(.reg false [⟨some 29, .bin .add (.tmp 16) (.const (.int .i64 (1))), none, [16], []⟩,
    ⟨some 16, .mv (.tmp 29), none, [29], []⟩] [2, 3, 15, 16])))))))
(.seq (.seq (.reg false [⟨some 30, .foff 1 (.tmp 3), none, [3], []⟩,
    ⟨some 31, .load false 1 (.tmp 30), none, [30], []⟩,
    ⟨some 32, .len false (.tmp 31), none, [31], []⟩,
    ⟨some 33, .mv (.const (.int .i64 (0))), none, [], []⟩] [2, 3, 32, 33])
(.block 2 (.loop (.seq (.reg false [⟨some 34, .bin .lss (.tmp 33) (.tmp 32), none, [33, 32], []⟩] [2, 3, 32, 33, 34])
(.seq (.cond (.tmp 34)
.skip
(.exit 2))
(.seq (.block 3 (.seq (.reg false [⟨some 35, .mv (.tmp 33), none, [33], []⟩,
    ⟨some 5, .mv (.tmp 35), none, [35], []⟩] [2, 3, 5, 32, 33])
(.reg true [⟨some 36, .foff 1 (.tmp 3), none, [3], []⟩,
    ⟨some 37, .load false 1 (.tmp 36), none, [36], [0]⟩,
    ⟨some 38, .mv (.tmp 5), none, [5], []⟩,
    ⟨some 39, .foff 1 (.tmp 3), none, [3], []⟩,
    ⟨some 40, .load false 1 (.tmp 39), none, [39], [3]⟩,
    ⟨some 41, .mv (.tmp 5), none, [5], []⟩,
    ⟨some 42, .idx 2 (.tmp 40) (.tmp 41), none, [40, 41], [4, 5, 3]⟩,
    ⟨some 43, .foff 1 (.tmp 42), none, [42], [6, 4, 5, 3]⟩,
    ⟨some 44, .load false 1 (.tmp 43), none, [43], [7, 6, 4, 5, 3]⟩,
    ⟨some 45, .call 95 [(.tmp 44)], none, [44], [8, 7, 6, 4, 5, 3]⟩,
    ⟨some 46, .idx 2 (.tmp 37) (.tmp 38), none, [37, 38], [1, 2, 0, 3, 4, 5, 6, 7, 8, 9]⟩,
    ⟨some 47, .foff 1 (.tmp 46), none, [46], [10, 0, 1, 2, 3, 4, 5, 6, 7, 8, 9]⟩,
    ⟨none, .store 1 (.tmp 47) (.tmp 45), none, [47, 45], [11, 9, 0, 1, 2, 3, 4, 5, 6, 7, 8, 10]⟩] [2, 3, 32, 33])))
(.reg false [⟨some 48, .bin .add (.tmp 33) (.const (.int .i64 (1))), none, [33], []⟩,
    ⟨some 33, .mv (.tmp 48), none, [48], []⟩] [2, 3, 32, 33])))))))
(.seq (.reg false [⟨some 49, .load true 2 (.tmp 3), none, [3], []⟩,
    ⟨none, .store 2 (.tmp 2) (.tmp 49), none, [2, 49], []⟩] [2])
.ret)))))
theorem ok_87 : FnOk Tryz.prog 87 50 ac_87 [.cell 2 true 2] := ⟨Tryz.f87, Tryz.func87, by kernel_rfl, by kernel_rfl, by kernel_rfl, by kernel_rfl, by kernel_rfl⟩
def ac_52 : AC :=
(.seq (.reg false [⟨some 2, .box 50 (.tmp 0), none, [0], []⟩,
    ⟨some 4, .new 50 [(.slice none 0 0), (.slice none 0 0)], none, [], []⟩,
    ⟨some 5, .mv (.const (.int .i64 (0))), none, [], []⟩] [1, 2, 4])
(.seq (.seq (.reg false [⟨some 10, .load true 2 (.tmp 2), none, [2], []⟩,
    ⟨some 11, .call 49 [(.tmp 10)], none, [10], []⟩,
    ⟨some 6, .mv (.tmp 11), none, [11], []⟩] [1, 2, 4, 6])
(.seq (.reg false [⟨some 12, .mv (.tmp 6), none, [6], []⟩,
    ⟨some 13, .bin .neq (.tmp 12) (.const (.int .i64 (0))), none, [12], []⟩] [1, 2, 4, 6, 13])
(.cond (.tmp 13)
(.seq (.reg false [⟨some 14, .build [(.slice none 0 0), (.slice none 0 0)] [], none, [], []⟩,
    ⟨some 15, .mv (.tmp 6), none, [6], []⟩,
    ⟨none, .store 2 (.tmp 4) (.tmp 14), none, [4, 14], []⟩,
    ⟨some 5, .mv (.tmp 15), none, [15], []⟩] [4, 5])
.ret)
.skip)))
(.seq (.reg false [⟨some 16, .load true 2 (.tmp 2), none, [2], []⟩,
    ⟨some 17, .call 87 [(.tmp 16)], none, [16], []⟩,
    ⟨some 7, .new 50 [(.slice none 0 0), (.slice none 0 0)], none, [], []⟩,
    ⟨none, .store 2 (.tmp 7) (.tmp 17), none, [7, 17], []⟩] [1, 4, 7])
(.seq (.seq (.reg false [⟨some 18, .foff 1 (.tmp 7), none, [7], []⟩,
    ⟨some 19, .load false 1 (.tmp 18), none, [18], []⟩,
    ⟨some 20, .len false (.tmp 19), none, [19], []⟩,
    ⟨some 21, .mv (.const (.int .i64 (0))), none, [], []⟩] [1, 4, 7, 19, 20, 21])
(.block 0 (.loop (.seq (.reg false [⟨some 22, .bin .lss (.tmp 21) (.tmp 20), none, [21, 20], []⟩] [1, 4, 7, 19, 20, 21, 22])
(.seq (.cond (.tmp 22)
.skip
(.exit 0))
(.seq (.block 1 (.seq (.reg false [⟨some 23, .mv (.tmp 21), none, [21], []⟩,
    ⟨some 24, .idx 2 (.tmp 19) (.tmp 21), none, [19, 21], []⟩,
    ⟨some 25, .load true 2 (.tmp 24), none, [24], []⟩,
    ⟨some 9, .new 90 [(.int .i64 (0)), (.slice none 0 0)], none, [], []⟩,
    ⟨some 8, .mv (.tmp 23), none, [23], []⟩,
    ⟨none, .store 2 (.tmp 9) (.tmp 25), none, [9, 25], []⟩] [1, 4, 7, 8, 9, 19, 20, 21])
(.seq (.reg false [⟨some 26, .mv (.tmp 1), none, [1], []⟩,
    ⟨some 27, .mv (.tmp 8), none, [8], []⟩,
    ⟨some 28, .callv (.tmp 26) [(.tmp 27)], none, [26, 27], []⟩] [1, 4, 7, 9, 19, 20, 21, 28])
(.cond (.tmp 28)
(.reg true [⟨some 29, .foff 0 (.tmp 7), none, [7], []⟩,
    ⟨some 30, .load false 1 (.tmp 29), none, [29], [0]⟩,
    ⟨some 31, .foff 0 (.tmp 9), none, [9], []⟩,
    ⟨some 32, .load false 1 (.tmp 31), none, [31], [2]⟩,
    ⟨some 33, .idx 1 (.tmp 30) (.tmp 32), none, [30, 32], [1, 3, 0, 2]⟩,
    ⟨some 34, .load false 1 (.tmp 33), none, [33], [4, 1, 3, 0, 2]⟩,
    ⟨some 35, .foff 1 (.tmp 9), none, [9], []⟩,
    ⟨some 36, .load false 1 (.tmp 35), none, [35], [6]⟩,
    ⟨some 37, .copy (.tmp 34) (.tmp 36), none, [34, 36], [5, 7, 4, 1, 3, 0, 2, 6]⟩] [1, 4, 7, 19, 20, 21])
.skip))))
(.reg false [⟨some 38, .bin .add (.tmp 21) (.const (.int .i64 (1))), none, [21], []⟩,
    ⟨some 21, .mv (.tmp 38), none, [38], []⟩] [1, 4, 7, 19, 20, 21])))))))
(.seq (.reg false [⟨some 39, .foff 1 (.tmp 7), none, [7], []⟩,
    ⟨none, .store 1 (.tmp 39) (.const (.slice none 0 0)), none, [39], []⟩] [4, 7])
(.seq (.reg false [⟨some 40, .load true 2 (.tmp 7), none, [7], []⟩,
    ⟨none, .store 2 (.tmp 4) (.tmp 40), none, [4, 40], []⟩,
    ⟨some 5, .mv (.const (.int .i64 (0))), none, [], []⟩] [4, 5])
.ret))))))
theorem ok_52 : FnOk Tryz.prog 52 41 ac_52 [.cell 4 true 2, .tmp 5] := ⟨Tryz.f52, Tryz.func52, by kernel_rfl, by kernel_rfl, by kernel_rfl, by kernel_rfl, by kernel_rfl⟩
end Go.Proofs.YtdenddhdeloceaaGreatDoor
/- Contracts: slices.ContainsFunc of sectors. -/
namespace Go.Proofs.YtdenddhdeloceaaGreatDoor
open Go.RowKit
set_option maxRecDepth 100000
theorem odd_spec (fr : Bool) (t : List Int) (nb : Nat) : ASound Tryz.prog 83 [fB fr t] nb (.ret (.v (.bool (decide (t.length ≠ 64)))) []) := by
  refine ok_83.sound (by simp) ⟨al_fB t, trivial⟩ ?_
  by_cases h : t.length = 64
  · have f : (t.length : Int) = 64 := by omega
    simp only [ac_83, f, TT, ↓reduceIte, Nat.reduceEqDiff, Nat.reduceAdd, Nat.reduceMul, reduceCtorEq, Nat.reduceLeDiff]
    exact Ends.data (.inr rfl) (by simp [ET, h]) trivial
  · have f : ¬ (t.length : Int) = 64 := by omega
    simp only [ac_83, f, TT, ↓reduceIte, Nat.reduceEqDiff, Nat.reduceAdd, Nat.reduceMul, reduceCtorEq, Nat.reduceLeDiff]
    exact Ends.data (.inr rfl) (by simp [ET, h]) trivial
/-- the first that is odd, or -1 -/
def idxB : List (List Int) → Nat → Int
  | [], _ => -1
  | t :: l, k => if t.length ≠ 64 then (k : Int) else idxB l (k + 1)
theorem idxB_drop {l : List (List Int)} {i : Nat} {t : List Int} (h : l[i]? = some t) : idxB (l.drop i) i = if t.length ≠ 64 then (i : Int) else idxB (l.drop (i + 1)) (i + 1) := by
  have hi := (List.getElem?_eq_some_iff.1 h)
  rw [List.drop_eq_getElem_cons hi.1, hi.2]
  rfl
theorem idxB_pos : ∀ (l : List (List Int)) (k : Nat), 0 ≤ idxB l k ↔ ∃ t ∈ l, t.length ≠ 64
  | [], k => by simp [idxB]
  | t :: l, k => by
    rw [idxB]
    by_cases h : t.length = 64
    · rw [if_neg (by simp [h]), idxB_pos l (k + 1)]; simp [h]
    · rw [if_pos h]; constructor
      · intro _; exact ⟨t, by simp, h⟩
      · intro _; omega
abbrev L_ix (fr : Bool) (l : List (List Int)) (i : Nat) : ASt := ⟨envOf [(0, fL fr l), (1, .fn 83 []), (7, .v (.int .i64 l.length)), (8, .v (.int .i64 i))], heapOf [], 0⟩
theorem index1_spec (fr : Bool) (l : List (List Int)) (nb : Nat) (hl : l.length ≤ 140737488355328) : ASound Tryz.prog 105 [fL fr l, .fn 83 []] nb (.ret (.v (.int .i64 (idxB l 0))) []) := by
  refine ok_105.sound (by simp) ⟨al_fL l, trivial, trivial⟩ ?_
  simp only [ac_105, TT, ↓reduceIte, Nat.reduceEqDiff, Nat.reduceAdd, Nat.reduceMul, reduceCtorEq, Nat.reduceLeDiff]
  refine AWc.family (L_ix fr l) (fun i => i ≤ l.length ∧ idxB (l.drop i) i = idxB l 0) (fun i => l.length - i) 0 ⟨Nat.zero_le _, rfl⟩ ?_ ?_
  · refine Weak.calc [] (by decide) ?_ ?_ <;> simp [WT]
  · rintro i ⟨hi, he⟩
    by_cases hlt : i < l.length
    · obtain ⟨t, hx, e1, e0⟩ := lt_at hlt
      have ho := odd_spec fr t
      simp only [fB] at ho
      rw [idxB_drop hx] at he
      simp only [L_ix, e1, e0, get_L hx, TT, ↓reduceIte, Nat.reduceEqDiff, Nat.reduceAdd, Nat.reduceMul, reduceCtorEq, Nat.reduceLeDiff]
      refine ⟨_, _, _, rfl, ho _, ?_⟩
      by_cases h : t.length = 64
      · rw [if_neg (by simp [h])] at he
        simp only [h, ne_eq, not_true_eq_false, decide_false, TT, ↓reduceIte, Nat.reduceEqDiff, Nat.reduceAdd, Nat.reduceMul, reduceCtorEq, Nat.reduceLeDiff]
        refine famC_next (i + 1) (by omega) ⟨by omega, he⟩ ?_
        refine Weak.calc [] (by decide) ?_ ?_ <;> simp [WT, wrap64 (x := (i : Int) + 1) (by omega)]
      · rw [if_pos h] at he
        rw [← he]
        simp only [h, ne_eq, not_false_eq_true, decide_true, TT, ↓reduceIte, Nat.reduceEqDiff, Nat.reduceAdd, Nat.reduceMul, reduceCtorEq, Nat.reduceLeDiff]
        exact Ends.data (.inr rfl) (by simp [ET]) trivial
    · obtain rfl : i = l.length := by omega
      have e1 : ¬ ((l.length : Int) < (l.length : Int)) := by omega
      have : idxB l 0 = -1 := by rw [← he, List.drop_length]; rfl
      rw [this]
      simp only [L_ix, e1, TT, ↓reduceIte, Nat.reduceEqDiff, Nat.reduceAdd, Nat.reduceMul, reduceCtorEq, Nat.reduceLeDiff]
      exact Ends.data (.inr rfl) (by simp [ET]) trivial
theorem contains1_spec (fr : Bool) (l : List (List Int)) (nb : Nat) (hl : l.length ≤ 140737488355328) : ASound Tryz.prog 85 [fL fr l, .fn 83 []] nb (.ret (.v (.bool (decide (∃ t ∈ l, t.length ≠ 64)))) []) := by
  refine ok_85.sound (by simp) ⟨al_fL l, trivial, trivial⟩ ?_
  have hi := index1_spec fr l
  simp only [fL] at hi
  simp only [ac_85, TT, ↓reduceIte, Nat.reduceEqDiff, Nat.reduceAdd, Nat.reduceMul, reduceCtorEq, Nat.reduceLeDiff]
  refine ⟨_, hi _ hl, ?_⟩
  simp only [TT, ↓reduceIte, Nat.reduceEqDiff, Nat.reduceAdd, Nat.reduceMul, reduceCtorEq, Nat.reduceLeDiff]
  exact Ends.data (.inr rfl) (by simp [ET, idxB_pos]) trivial
end Go.Proofs.YtdenddhdeloceaaGreatDoor
