/- Merged texts: RA, T0, AW, NA, NB, NC, ND, NE, NF, NG, NH, KA, KB, U0, U1, U2, U3, T1, KC, U4, AP, U5, U6, U7, U8, U9, T2, UA, UB, AZ, BD, H0. -/
import Derived.Test.YtonglhkiobibgaaGreatDoorX1
import Derived.WalkKit
import Derived.ProofKit
import Derived.OpenShut
import Derived.ChangeOld
import Derived.SizedLaws
import Derived.Carry
import Derived.Test.YtonglhkiobibgaaGreatDoorProg
set_option linter.unusedSimpArgs false
set_option linter.unusedVariables false
namespace Go.Proofs.YtonglhkiobibgaaGreatDoor
open Go.RowKit
def reachB : Nat := 140737488351232
theorem VRl_app {c : Cx} : ∀ {a b : List AV} {us : List Value}, VRl c (a ++ b) us ↔ ∃ u1 u2, us = u1 ++ u2 ∧ VRl c a u1 ∧ VRl c b u2
  | [], b, us => ⟨fun h => ⟨[], us, rfl, rfl, h⟩, fun ⟨u1, u2, e, h1, h2⟩ => by rw [VRl] at h1; subst h1; rw [e]; exact h2⟩
  | x :: a, b, us => by
    rw [List.cons_append, VRl]
    constructor
    · rintro ⟨u, us', rfl, h1, h2, h3⟩
      obtain ⟨u1, u2, rfl, h4, h5⟩ := VRl_app.1 h3
      exact ⟨u :: u1, u2, rfl, ⟨u, u1, rfl, h1, h2, h4⟩, h5⟩
    · rintro ⟨u1, u2, rfl, h1, h2⟩
      rw [VRl] at h1
      obtain ⟨u, us', rfl, h3, h4, h5⟩ := h1
      exact ⟨u, us' ++ u2, rfl, h3, h4, VRl_app.2 ⟨us', u2, rfl, h5, h2⟩⟩
/-- the moment of a call from outside -/
def cx0 (W : World) : Cx := ⟨W, W.heap.size, fun _ => none, fun _ => none, fun _ => False, fun _ => .no⟩
theorem hr0 (W : World) (hg : ∀ b v, GLOB b = some v → W.cell? ⟨b, 0, none⟩ = some v) : HR (cx0 W) := ⟨fun id y e cells h => by simp [cx0] at h, fun id id' b h => absurd rfl h, Nat.le_refl _, fun b h => h.elim, fun b v h => ⟨hg b v h, by rintro ⟨id, o, h, _⟩; simp [cx0] at h, fun h => h.elim⟩⟩
theorem ok0 (W : World) (b : Nat) : (cx0 W).ok false b := ⟨fun h => (by cases h), by rintro ⟨id, o, h, _⟩; simp [cx0] at h, fun h => h⟩
/-- a call from outside -/
theorem ASound.row {P : Program} {f : FuncId} {args : List AV} {b : Value} (h : ∀ nb, ASound P f args nb (.ret (.v b) [])) {W : World} {us : List Value} (hg : ∀ b v, GLOB b = some v → W.cell? ⟨b, 0, none⟩ = some v) (hv : VRt (cx0 W) args us) : Calls P f us.toArray W fun e W' => e = .returned b ∧ Below W.heap.size W W' := by
  refine ((h 0).2 (cx0 W) us _ _ _ rfl (hr0 W hg) (fun id _ => .inl rfl) hv).mono ?_
  rintro e w' ⟨v, d, rfl, rfl, h1, h2⟩
  rw [VR] at h1
  subst h1
  refine ⟨rfl, ⟨h2.grow.osE, h2.grow.tape, h2.grow.out, h2.grow.size, fun k hk => h2.grow.stay k hk ?_ (fun h => h.elim)⟩⟩
  rintro ⟨id, o, h3, _⟩
  simp [cx0] at h3
/-- What the readings of a type say: a datum. -/
structure Rd (P : Program) (t : TypeId) {α : Type} (e : Bool → α → List AV) (ok : α → Prop) : Prop where
  len : ∀ x, (e false x).length = P.cellsOf t
  rd : ∀ {H : Type} {enc : TypeId × Value → H} {W : World} {fuel : Nat} {cs : List Value} {x : DataW H × List MemPlace}, DataW.trod enc P W 0 (fun _ => true) true fuel t cs = some x → (x.1.weights P t).all (· ≤ reachBytes) = true → ∃ a, ok a ∧ VRl (cx0 W) (e false a) cs
section
variable {P : Program}
theorem rd_int {t : TypeId} {k : IntKind} (ht : P.underlying t = some (.int k)) (hc : P.cellsOf t = 1) : Rd P t (fun _ x => [.v (.int k x)]) (fun x => (Lit.int k x).wf = true) where
  len _ := hc.symm
  rd := by
    intro H enc W fuel cs x h _
    obtain ⟨n, rfl, _, hw⟩ := DataW.trod_int ht h
    exact ⟨n, hw, _, [], rfl, rfl, rfl, rfl⟩
theorem rd_bool {t : TypeId} (ht : P.underlying t = some .bool) (hc : P.cellsOf t = 1) : Rd P t (fun _ x => [.v (.bool x)]) (fun _ => True) where
  len _ := hc.symm
  rd := by
    intro H enc W fuel cs x h _
    obtain ⟨n, rfl, _⟩ := DataW.trod_bool ht h
    exact ⟨n, trivial, _, [], rfl, rfl, rfl, rfl⟩
theorem Rd.map {t : TypeId} {α β : Type} {e : Bool → α → List AV} {ok : α → Prop} (h : Rd P t e ok) {e' : Bool → β → List AV} {ok' : β → Prop} (f : α → β) (g : β → α) (hg : ∀ fr b, e' fr b = e fr (g b)) (he : ∀ fr a, e' fr (f a) = e fr a) (hok : ∀ a, ok a → ok' (f a)) : Rd P t e' ok' where
  len x := by rw [hg]; exact h.len _
  rd := by
    intro H enc W fuel cs x h1 h2
    obtain ⟨a, h3, h4⟩ := h.rd h1 h2
    exact ⟨f a, hok a h3, by rw [he]; exact h4⟩
theorem list_choose {α : Type} {Q : Nat → α → Prop} : ∀ n, (∀ i, i < n → ∃ a, Q i a) → ∃ l : List α, l.length = n ∧ ∀ i a, l[i]? = some a → Q i a
  | 0, _ => ⟨[], rfl, fun i a h => by simp at h⟩
  | n + 1, h => by
    obtain ⟨l, h1, h2⟩ := list_choose n fun i hi => h i (by omega)
    obtain ⟨a, ha⟩ := h n (by omega)
    refine ⟨l ++ [a], by simp [h1], fun i b hb => ?_⟩
    by_cases hi : i < n
    · rw [List.getElem?_append_left (by omega)] at hb; exact h2 i b hb
    · have hl := (List.getElem?_eq_some_iff.1 hb).1
      simp [h1] at hl
      have : i = n := by omega
      subst this
      rw [List.getElem?_append_right (by omega)] at hb
      simp [h1] at hb
      rw [← hb]; exact ha
theorem weightsAll_mem {H : Type} {e : TypeId} : ∀ {l : List (DataW H)} {p : Nat → Bool}, (DataW.weightsAll P e l).all p = true → ∀ d ∈ l, (d.weights P e).all p = true
  | [], _, _, d, hd => by simp at hd
  | x :: l, p, h, d, hd => by
    rw [DataW.weightsAll, List.all_append, Bool.and_eq_true] at h
    rcases List.mem_cons.1 hd with e1 | e1
    · rw [e1]; exact h.1
    · exact weightsAll_mem h.2 d e1
theorem rd_slice {t te : TypeId} {α : Type} {e : Bool → α → List AV} {ok : α → Prop} {B : Nat} (ht : P.underlying t = some (.slice te)) (hc : P.cellsOf t = 1) (hb : P.bytesOf te = B) (hp : 0 < P.cellsOf te) (h : Rd P te e ok) :
    Rd P t (fun fr (xs : List α) => [.fs fr (xs.flatMap (e fr)) xs.length]) (fun xs => xs.length * B ≤ reachB ∧ ∀ x ∈ xs, ok x) where
  len _ := hc.symm
  rd := by
    intro H enc W fuel cs x h1 h2
    rcases DataW.trod_slice ht h1 with ⟨rfl, rfl⟩ | ⟨a, len, cap, elems, rest, n, _, rfl, rfl, _, hl, hm, hlen, hel, _, _⟩
    · refine ⟨[], ⟨by simp, by simp⟩, _, [], rfl, rfl, ?_, rfl⟩
      rw [VR]
      exact ⟨none, 0, rfl, Nat.le_refl _, fun h => absurd rfl h⟩
    · simp only [DataW.weights, ht, List.all_cons, List.all_append, Bool.and_eq_true, decide_eq_true_eq] at h2
      obtain ⟨hw, hwe, _⟩ := h2
      have each : ∀ i, i < len → ∃ y, ok y ∧ ∃ us, VRl (cx0 W) (e false y) us ∧ us.length = P.cellsOf te ∧ ∀ j, j < P.cellsOf te → W.cell? ((a.add (i * P.cellsOf te)).add j) = us[j]? := by
        intro i hi
        have h3 := hel i hi
        rw [List.getElem?_eq_getElem (by omega), Option.bind_eq_some_iff] at h3
        obtain ⟨us, h4, h5⟩ := h3
        obtain ⟨_, h6, h7⟩ := World.cells?_some h4
        obtain ⟨y, h8, h9⟩ := h.rd h5 (weightsAll_mem hwe _ (List.mem_map.2 ⟨elems[i], List.getElem_mem _, rfl⟩))
        exact ⟨y, h8, us, h9, h6, h7⟩
      obtain ⟨xs, hxl, hxs⟩ := list_choose len each
      refine ⟨xs, ⟨?_, fun y hy => ?_⟩, _, [], rfl, rfl, ?_, rfl⟩
      · rw [hb] at hw
        simp at hw
        have : xs.length * B ≤ (elems.length + rest.length) * B := Nat.mul_le_mul_right _ (by omega)
        unfold reachB
        unfold reachBytes at hw
        omega
      · obtain ⟨i, hi⟩ := List.getElem?_of_mem hy
        exact (hxs i y hi).1
      · rw [VR]
        refine ⟨some a, cap, by rw [hxl], by omega, fun hne => ?_⟩
        have hn0 : 0 < xs.length := by omega
        have spot : a.spot = none := by
          obtain ⟨_, us, _, h6, h7⟩ := hxs 0 _ (List.getElem?_eq_getElem hn0)
          have h8 := h7 0 hp
          rw [List.getElem?_eq_getElem (by omega)] at h8
          simp only [Nat.zero_mul, Addr.add, if_true] at h8
          unfold World.cell? at h8
          split at h8
          · split at h8
            · cases h8
            · rename_i hs; cases hsp : a.spot with
              | none => rfl
              | some _ => rw [hsp] at hs; simp at hs
          · cases h8
        obtain ⟨b, off, sp⟩ := a
        simp only at spot
        subst spot
        have addr : ∀ k j, ((Addr.mk b off none).add k).add j = ⟨b, off + (k + j), none⟩ := by
          intro k j
          unfold Addr.add
          by_cases hk : k = 0 <;> by_cases hj : j = 0 <;> simp [hk, hj]
          omega
        have key : ∀ (j : Nat) q, (xs.flatMap (e false))[j]? = some q → ∃ u, W.cell? ⟨b, off + j, none⟩ = some u ∧ u.oneCell' = true ∧ VR (cx0 W) q u := by
          intro j q hj
          have hlt : j < xs.length * P.cellsOf te := by rw [← flat_len h.len xs]; exact (List.getElem?_eq_some_iff.1 hj).1
          have hi : j / P.cellsOf te < xs.length := Nat.div_lt_of_lt_mul (by rw [Nat.mul_comm]; exact hlt)
          have hr : j % P.cellsOf te < P.cellsOf te := Nat.mod_lt _ hp
          have ej : j / P.cellsOf te * P.cellsOf te + j % P.cellsOf te = j := by rw [Nat.mul_comm]; exact Nat.div_add_mod _ _
          obtain ⟨_, us, h5, h6, h7⟩ := hxs _ _ (List.getElem?_eq_getElem hi)
          rw [← ej, flat_get h.len (List.getElem?_eq_getElem hi) _ hr] at hj
          obtain ⟨u, k1, k2, k3⟩ := (VRl_iff.1 h5).2 _ q hj
          have h8 := h7 _ hr
          rw [addr, ej, k1] at h8
          exact ⟨u, h8, k2, k3⟩
        have hb0 : b < W.heap.size := by
          have hfl : 0 < (xs.flatMap (e false)).length := by rw [flat_len h.len xs]; exact Nat.mul_pos hn0 hp
          obtain ⟨u, h5, _⟩ := key 0 _ (List.getElem?_eq_getElem hfl)
          exact cell_lt h5
        exact ⟨b, off, rfl, hb0, ok0 W b, VRm_iff.2 key⟩
/-- the same of fields, from a place on -/
structure RdF (P : Program) (fs : List Field) (o n : Nat) {α : Type} (e : Bool → α → List AV) (ok : α → Prop) : Prop where
  len : ∀ x, (e false x).length = n
  rd : ∀ {H : Type} {enc : TypeId × Value → H} {W : World} {fuel : Nat} {cs : List Value} {xs : List (DataW H × List MemPlace)},
    (∀ (i : Nat) (f : Field), fs[i]? = some f → DataW.trod enc P W 0 (fun _ => true) true fuel f.type ((cs.drop f.offset).take (P.cellsOf f.type)) = xs[i]?) → xs.length = fs.length →
    (DataW.weightsEach P (fs.map (·.type)) (xs.map (·.1))).all (· ≤ reachBytes) = true → ∃ a, ok a ∧ VRl (cx0 W) (e false a) ((cs.drop o).take n)
theorem RdF.nil {o : Nat} : RdF P [] o 0 (fun _ (_ : Unit) => []) (fun _ => True) where
  len _ := rfl
  rd := by
    intro H enc W fuel cs xs _ _ _
    exact ⟨(), trivial, by simp [VRl]⟩
theorem RdF.cons {f : Field} {fs : List Field} {o c n : Nat} {α β : Type} {e1 : Bool → α → List AV} {ok1 : α → Prop} {e2 : Bool → β → List AV} {ok2 : β → Prop} (ho : f.offset = o) (hc : P.cellsOf f.type = c) (h1 : Rd P f.type e1 ok1) (h2 : RdF P fs (o + c) n e2 ok2) :
    RdF P (f :: fs) o (c + n) (fun fr (x : α × β) => e1 fr x.1 ++ e2 fr x.2) (fun x => ok1 x.1 ∧ ok2 x.2) where
  len x := by rw [List.length_append, h1.len, h2.len, hc]
  rd := by
    intro H enc W fuel cs xs h3 h4 h5
    cases xs with
    | nil => simp at h4
    | cons x xs =>
      rw [List.map_cons, List.map_cons, DataW.weightsEach, List.all_append, Bool.and_eq_true] at h5
      have h6 := h3 0 f rfl
      rw [List.getElem?_cons_zero, ho, hc] at h6
      obtain ⟨a, k1, k2⟩ := h1.rd h6 h5.1
      obtain ⟨b, k3, k4⟩ := h2.rd (xs := xs) (fun i f' hf => by have := h3 (i + 1) f' (by simpa using hf); simpa using this) (by simpa using h4) h5.2
      refine ⟨(a, b), ⟨k1, k3⟩, ?_⟩
      rw [List.take_add, List.drop_drop]
      exact VRl_app.2 ⟨_, _, rfl, k2, k4⟩
theorem rd_struct {t : TypeId} {fs : Array Field} {n : Nat} {α : Type} {e : Bool → α → List AV} {ok : α → Prop} (ht : P.underlying t = some (.struct fs)) (hc : P.cellsOf t = n) (h : RdF P fs.toList 0 n e ok) : Rd P t e ok where
  len x := by rw [h.len, hc]
  rd := by
    intro H enc W fuel cs x h1 h2
    obtain ⟨xs, m, _, rfl, h3, h4, h5⟩ := DataW.trod_struct ht h1
    simp only [DataW.weights, ht] at h2
    obtain ⟨a, k1, k2⟩ := h.rd (fun i f hf => h5 i f (by simpa using hf)) (by simpa using h4) h2
    rw [List.drop_zero, List.take_of_length_le (by omega)] at k2
    exact ⟨a, k1, k2⟩
end
end Go.Proofs.YtonglhkiobibgaaGreatDoor
namespace Go.Proofs.YtonglhkiobibgaaGreatDoor
open Go.RowKit
end Go.Proofs.YtonglhkiobibgaaGreatDoor
namespace Go.Proofs.YtonglhkiobibgaaGreatDoor
open Go.RowKit
variable {P : Program} {N m : Nat}
theorem Weak.imps {s : ASt} (l : List (Nat × AV)) (h : List (Nat × AObj)) (hl : ∀ t v, (t, v) ∈ l → Imp (s.env t) v)
    (hh : ∀ j o, (j, o) ∈ h → ∃ y e cs cs', s.σ j = some (.row y e cs) ∧ o = .row y e cs' ∧ (cs'.length = cs.length ∨ (e ≠ MAPE ∧ cs'.length ≤ cs.length)) ∧ ∀ (k : Nat) x', cs'[k]? = some x' → ∃ x, cs[k]? = some x ∧ Imp x x') : Weak N m s ⟨envOf l, heapOf h, s.nx⟩ := by
  intro c a hr hms
  generalize hd : (⟨c.w, c.B, c.φ, heapOf h, c.X, c.Y⟩ : Cx) = d
  have dw : d.w = c.w := by rw [← hd]
  have dB : d.B = c.B := by rw [← hd]
  have dX : d.X = c.X := by rw [← hd]
  have dY : d.Y = c.Y := by rw [← hd]
  have dσ : d.σ = heapOf h := by rw [← hd]
  have dφ : d.φ = c.φ := by rw [← hd]
  have live : ∀ j o, d.σ j = some o → ∃ y' e' cs cs', c.σ j = some (.row y' e' cs) ∧ o = .row y' e' cs' ∧ (cs'.length = cs.length ∨ (e' ≠ MAPE ∧ cs'.length ≤ cs.length)) ∧ ∀ (k : Nat) x', cs'[k]? = some x' → ∃ x, cs[k]? = some x ∧ Imp x x' := by
    intro j o hj
    rw [dσ] at hj
    obtain ⟨y', e', cs, cs', f1, f2⟩ := hh j o (heapOf_mem hj)
    exact ⟨y', e', cs, cs', by rw [hr.σ]; exact f1, f2⟩
  have hT : ∀ b, d.T b → c.T b := by
    rintro b ⟨k, o, e1, e2⟩
    obtain ⟨y', e', cs, cs', f1, _⟩ := live k o e1
    rw [dφ] at e2
    exact ⟨k, _, f1, e2⟩
  have g : Grow c d := Still.grow ⟨dY, dX, dB, by rw [dw], by rw [dw], by rw [dw], by rw [dw]; exact Nat.le_refl _, fun b _ _ => by rw [dw], fun b hb => .inl (hT b hb), fun b cs e f hb => ⟨cs, f, by rw [dw]; exact hb, rfl⟩⟩
  have nm : Names c d := fun k x hk => by rw [dφ]; exact hk
  refine ⟨d, dw, g, fun _ _ => by rw [dφ], ⟨hr.size, fun t => ?_, ⟨fun j y' e' cs' hs => ?_, fun i i' b e1 e2 e3 e4 => ?_, by rw [dB, dw]; exact hr.hr.base, fun b hb => by rw [dX] at hb; rw [dw]; exact hr.hr.xlt b hb, hr.hr.gl.grow g⟩, dσ, fun k hk hne => by rw [dφ] at hne; exact hr.fresh k hk hne⟩, hms⟩
  · simp only
    rcases envOf_mem (l := l) (t := t) with h9 | h9
    · rw [h9]; trivial
    · exact (hl _ _ h9 c _ (hr.env t)).mono g nm
  · obtain ⟨y2, e2, cs, cs2, f1, f2, f3, f4⟩ := live j _ hs
    cases f2
    rcases hr.hr.row j y' e' cs f1 with ⟨g1, g2⟩ | ⟨b, ca, g1, g2, g3, g4, g5⟩
    · refine .inl ⟨by rw [dφ]; exact g1, ?_, g2.2⟩
      rw [g2.1] at f3
      exact List.eq_nil_of_length_eq_zero (by simp at f3; rcases f3 with f3 | ⟨_, f3⟩ <;> simp [f3])
    · refine .inr ⟨b, ca, by rw [dφ]; exact g1, by rw [dw]; rcases f3 with f3 | ⟨f3, _⟩; exact g2.to f3; exact Blk.mk f3 (g2.cells2 f3), ⟨by rw [dB]; exact g3.1, by rw [dX]; exact g3.2⟩, by omega, fun k x' hk => ?_⟩
      obtain ⟨x, k1, k2⟩ := f4 k x' hk
      obtain ⟨u, k3, k4, k5⟩ := g5 k x k1
      exact ⟨u, k3, k4, (k2 c _ k5).mono g nm⟩
  · obtain ⟨o1, ho1⟩ := Option.ne_none_iff_exists'.1 e1
    obtain ⟨o2, ho2⟩ := Option.ne_none_iff_exists'.1 e2
    obtain ⟨_, _, _, _, f1, _⟩ := live i o1 ho1
    obtain ⟨_, _, _, _, f2, _⟩ := live i' o2 ho2
    rw [dφ] at e3 e4
    exact hr.hr.inj i i' b (by rw [f1]; simp) (by rw [f2]; simp) e3 e4
/-- a row of which nothing is known but that it is there -/
theorem Weak.forget {s : ASt} (id : Nat) {y : Bool} {e : Nat} {cs : List AV} (l : List (Nat × AV)) (hl : ∀ t v, (t, v) ∈ l → s.env t = v) (hid : s.σ id = some (.row y e cs)) (hneM : e ≠ MAPE := by decide) : Weak N m s ⟨envOf l, heapOf [(id, .row y e [])], s.nx⟩ := by
  refine Weak.imps l _ (fun t v h => by rw [hl t v h]; exact Imp.refl v) (fun j o hj => ?_)
  simp only [List.mem_singleton, Prod.mk.injEq] at hj
  obtain ⟨rfl, rfl⟩ := hj
  exact ⟨y, e, cs, [], hid, rfl, .inr ⟨hneM, Nat.zero_le _⟩, fun k x hx => by simp at hx⟩
end Go.Proofs.YtonglhkiobibgaaGreatDoor
namespace Go.Proofs.YtonglhkiobibgaaGreatDoor
set_option maxRecDepth 100000
def ac_15 : AC :=
(.seq (.reg false [⟨some 0, .mv (.const (.bool false)), none, [], []⟩] [])
(.seq (.reg false [⟨some 13, .call 37 [], none, [], []⟩,
    ⟨some 14, .call 18 [(.tmp 13), (.const (.string (ByteArray.mk #[47, 97])))], none, [13], []⟩,
    ⟨some 12, .mv (.tmp 14), none, [14], []⟩,
    ⟨some 15, .ext 0 (.tmp 12), none, [12], []⟩,
    ⟨some 16, .ext 1 (.tmp 12), none, [12], []⟩,
    ⟨some 1, .new 28 [(.slice none 0 0), (.int .i64 (0))], none, [], []⟩,
    ⟨none, .store 2 (.tmp 1) (.tmp 15), none, [1, 15], []⟩,
    ⟨some 2, .mv (.tmp 16), none, [16], []⟩] [1, 2])
(.seq (.reg false [⟨some 18, .load true 2 (.tmp 1), none, [1], []⟩,
    ⟨some 19, .call 16 [(.tmp 18), (.const (.string (ByteArray.mk #[47, 97, 47, 102])))], none, [18], []⟩,
    ⟨some 17, .mv (.tmp 19), none, [19], []⟩,
    ⟨some 20, .ext 0 (.tmp 17), none, [17], []⟩,
    ⟨some 21, .ext 1 (.tmp 17), none, [17], []⟩,
    ⟨none, .store 2 (.tmp 1) (.tmp 20), none, [1, 20], []⟩,
    ⟨some 3, .mv (.tmp 21), none, [21], []⟩] [1, 2, 3])
(.seq (.reg false [⟨some 23, .load true 2 (.tmp 1), none, [1], []⟩,
    ⟨some 24, .bslice 5 1 2 [(.int .u8 (0)), (.int .u8 (0))] [(0, 1, (.const (.int .u8 (104)))), (1, 1, (.const (.int .u8 (105))))], none, [], []⟩,
    ⟨some 25, .sconv (.tmp 24), none, [24], []⟩,
    ⟨some 26, .call 25 [(.tmp 23), (.const (.string (ByteArray.mk #[47, 97, 47, 102]))), (.const (.int .i64 (0))), (.tmp 25)], none, [23, 25], []⟩,
    ⟨some 22, .mv (.tmp 26), none, [26], []⟩,
    ⟨some 27, .ext 0 (.tmp 22), none, [22], []⟩,
    ⟨some 28, .ext 1 (.tmp 22), none, [22], []⟩,
    ⟨some 29, .ext 2 (.tmp 22), none, [22], []⟩,
    ⟨none, .store 2 (.tmp 1) (.tmp 27), none, [1, 27], []⟩,
    ⟨some 4, .mv (.tmp 28), none, [28], []⟩,
    ⟨some 5, .mv (.tmp 29), none, [29], []⟩] [1, 2, 3, 4, 5])
(.seq (.reg false [⟨some 31, .load true 2 (.tmp 1), none, [1], []⟩,
    ⟨some 32, .call 26 [(.tmp 31), (.const (.string (ByteArray.mk #[47, 97, 47, 102]))), (.const (.int .i64 (0))), (.const (.int .i64 (9)))], none, [31], []⟩,
    ⟨some 30, .mv (.tmp 32), none, [32], []⟩,
    ⟨some 33, .ext 0 (.tmp 30), none, [30], []⟩,
    ⟨some 34, .ext 1 (.tmp 30), none, [30], []⟩,
    ⟨some 6, .mv (.tmp 33), none, [33], []⟩,
    ⟨some 7, .mv (.tmp 34), none, [34], []⟩] [1, 2, 3, 4, 5, 6, 7])
(.seq (.reg false [⟨some 36, .load true 2 (.tmp 1), none, [1], []⟩,
    ⟨some 37, .call 20 [(.tmp 36), (.const (.string (ByteArray.mk #[47, 97])))], none, [36], []⟩,
    ⟨some 35, .mv (.tmp 37), none, [37], []⟩,
    ⟨some 38, .ext 0 (.tmp 35), none, [35], []⟩,
    ⟨some 39, .ext 1 (.tmp 35), none, [35], []⟩,
    ⟨some 8, .new 28 [(.slice none 0 0), (.int .i64 (0))], none, [], []⟩,
    ⟨none, .store 2 (.tmp 8) (.tmp 38), none, [8, 38], []⟩,
    ⟨some 9, .mv (.tmp 39), none, [39], []⟩] [1, 2, 3, 4, 5, 6, 7, 9])
(.seq (.reg false [⟨some 41, .load true 2 (.tmp 1), none, [1], []⟩,
    ⟨some 42, .call 21 [(.tmp 41), (.const (.string (ByteArray.mk #[47, 97])))], none, [41], []⟩,
    ⟨some 40, .mv (.tmp 42), none, [42], []⟩,
    ⟨some 43, .ext 0 (.tmp 40), none, [40], []⟩,
    ⟨some 44, .ext 1 (.tmp 40), none, [40], []⟩,
    ⟨some 10, .new 28 [(.slice none 0 0), (.int .i64 (0))], none, [], []⟩,
    ⟨none, .store 2 (.tmp 10) (.tmp 43), none, [10, 43], []⟩,
    ⟨some 11, .mv (.tmp 44), none, [44], []⟩] [2, 3, 4, 5, 6, 7, 9, 11])
(.seq (.reg false [⟨some 45, .mv (.tmp 2), none, [2], []⟩,
    ⟨some 46, .call 19 [(.tmp 45)], none, [45], []⟩,
    ⟨some 47, .mv (.tmp 3), none, [3], []⟩,
    ⟨some 48, .call 19 [(.tmp 47)], none, [47], []⟩,
    ⟨some 49, .bin .add (.tmp 46) (.tmp 48), none, [46, 48], []⟩,
    ⟨some 50, .mv (.tmp 5), none, [5], []⟩,
    ⟨some 51, .call 19 [(.tmp 50)], none, [50], []⟩,
    ⟨some 52, .bin .add (.tmp 49) (.tmp 51), none, [49, 51], []⟩,
    ⟨some 53, .mv (.tmp 7), none, [7], []⟩,
    ⟨some 54, .call 19 [(.tmp 53)], none, [53], []⟩,
    ⟨some 55, .bin .add (.tmp 52) (.tmp 54), none, [52, 54], []⟩,
    ⟨some 56, .bin .eql (.tmp 55) (.const (.int .i64 (0))), none, [55], []⟩,
    ⟨some 57, .mv (.tmp 56), none, [56], []⟩,
    ⟨some 58, .mv (.tmp 4), some (57, true), [4, 57], []⟩,
    ⟨some 59, .bin .eql (.tmp 58) (.const (.int .i64 (2))), some (57, true), [58, 57], []⟩,
    ⟨some 60, .pick (.tmp 57) (.tmp 59) (.const (.bool false)), none, [57, 59], []⟩,
    ⟨some 61, .mv (.tmp 60), none, [60], []⟩,
    ⟨some 62, .mv (.tmp 6), some (61, true), [6, 61], []⟩,
    ⟨some 63, .b2s (.tmp 62), some (61, true), [62, 61], []⟩,
    ⟨some 64, .bin .eql (.tmp 63) (.const (.string (ByteArray.mk #[104, 105]))), some (61, true), [63, 61], []⟩,
    ⟨some 65, .pick (.tmp 61) (.tmp 64) (.const (.bool false)), none, [61, 64], []⟩,
    ⟨some 66, .mv (.tmp 65), none, [65], []⟩,
    ⟨some 67, .mv (.tmp 9), some (66, true), [9, 66], []⟩,
    ⟨some 68, .call 19 [(.tmp 67)], some (66, true), [67, 66], []⟩,
    ⟨some 69, .bin .eql (.tmp 68) (.const (.int .i64 (104))), some (66, true), [68, 66], []⟩,
    ⟨some 70, .pick (.tmp 66) (.tmp 69) (.const (.bool false)), none, [66, 69], []⟩,
    ⟨some 71, .mv (.tmp 70), none, [70], []⟩,
    ⟨some 72, .mv (.tmp 11), some (71, true), [11, 71], []⟩,
    ⟨some 73, .call 19 [(.tmp 72)], some (71, true), [72, 71], []⟩,
    ⟨some 74, .bin .eql (.tmp 73) (.const (.int .i64 (105))), some (71, true), [73, 71], []⟩,
    ⟨some 75, .pick (.tmp 71) (.tmp 74) (.const (.bool false)), none, [71, 74], []⟩,
    ⟨some 0, .mv (.tmp 75), none, [75], []⟩] [0])
.ret))))))))
theorem ok_15 : FnOk Tryz.prog 15 76 ac_15 [.tmp 0] := ⟨Tryz.f15, Tryz.func15, by kernel_rfl, by kernel_rfl, by kernel_rfl, by kernel_rfl, by kernel_rfl⟩
def ac_16 : AC :=
(.seq (.reg false [⟨some 2, .box 28 (.tmp 0), none, [0], []⟩,
    ⟨some 4, .new 28 [(.slice none 0 0), (.int .i64 (0))], none, [], []⟩,
    ⟨some 5, .mv (.const (.int .i64 (0))), none, [], []⟩] [1, 2, 4])
(.seq (.reg false [⟨some 6, .load true 2 (.tmp 2), none, [2], []⟩,
    ⟨some 7, .mv (.tmp 1), none, [1], []⟩,
    ⟨some 8, .bslice 9 1 1 [(.string (ByteArray.mk #[]))] [(0, 1, (.tmp 7))], none, [7], []⟩,
    ⟨some 9, .call 59 [(.tmp 6), (.tmp 8), (.func 60)], none, [6, 8], []⟩,
    ⟨some 10, .ext 0 (.tmp 9), none, [9], []⟩,
    ⟨some 11, .ext 1 (.tmp 9), none, [9], []⟩,
    ⟨none, .store 2 (.tmp 4) (.tmp 10), none, [4, 10], []⟩,
    ⟨some 5, .mv (.tmp 11), none, [11], []⟩] [4, 5])
.ret))
theorem ok_16 : FnOk Tryz.prog 16 12 ac_16 [.cell 4 true 2, .tmp 5] := ⟨Tryz.f16, Tryz.func16, by kernel_rfl, by kernel_rfl, by kernel_rfl, by kernel_rfl, by kernel_rfl⟩
def ac_17 : AC :=
(.seq (.reg false [⟨some 1, .box 24 (.tmp 0), none, [0], []⟩,
    ⟨some 2, .new 28 [(.slice none 0 0), (.int .i64 (0))], none, [], []⟩] [1, 2])
(.seq (.reg false [⟨some 6, .foff 1 (.tmp 1), none, [1], []⟩,
    ⟨some 7, .load false 1 (.tmp 6), none, [6], []⟩,
    ⟨some 8, .build [(.slice none 0 0), (.int .i64 (0))] [(1, 1, (.tmp 7))], none, [7], []⟩,
    ⟨some 3, .new 28 [(.slice none 0 0), (.int .i64 (0))], none, [], []⟩,
    ⟨none, .store 2 (.tmp 3) (.tmp 8), none, [3, 8], []⟩] [1, 2, 3])
(.seq (.seq (.reg false [⟨some 4, .mv (.const (.int .i64 (0))), none, [], []⟩] [1, 2, 3, 4])
(.block 0 (.loop (.seq (.seq (.reg false [⟨some 9, .mv (.tmp 4), none, [4], []⟩,
    ⟨some 10, .foff 0 (.tmp 1), none, [1], []⟩,
    ⟨some 11, .load false 1 (.tmp 10), none, [10], []⟩,
    ⟨some 12, .len false (.tmp 11), none, [11], []⟩,
    ⟨some 13, .bin .lss (.tmp 9) (.tmp 12), none, [9, 12], []⟩] [1, 2, 3, 4, 13])
(.cond (.tmp 13)
.skip
(.exit 0)))
(.seq (.block 1 (.seq (.reg false [⟨some 16, .foff 0 (.tmp 1), none, [1], []⟩,
    ⟨some 17, .load false 1 (.tmp 16), none, [16], []⟩,
    ⟨some 18, .mv (.tmp 4), none, [4], []⟩,
    ⟨some 19, .idx 6 (.tmp 17) (.tmp 18), none, [17, 18], []⟩,
    ⟨some 20, .load true 6 (.tmp 19), none, [19], []⟩,
    ⟨some 5, .new 110 [(.int .i64 (0)), (.bool false), (.int .i64 (0)), (.slice none 0 0), (.int .i64 (0)), (.slice none 0 0)], none, [], []⟩,
    ⟨none, .store 6 (.tmp 5) (.tmp 20), none, [5, 20], []⟩] [1, 2, 3, 4, 5])
(.reg true [⟨some 21, .foff 0 (.tmp 3), none, [3], []⟩,
    ⟨some 22, .load false 1 (.tmp 21), none, [21], [0]⟩,
    ⟨some 23, .foff 0 (.tmp 5), none, [5], []⟩,
    ⟨some 24, .load false 1 (.tmp 23), none, [23], [2]⟩,
    ⟨some 25, .foff 1 (.tmp 5), none, [5], []⟩,
    ⟨some 26, .load false 1 (.tmp 25), none, [25], [4]⟩,
    ⟨some 27, .foff 2 (.tmp 5), none, [5], []⟩,
    ⟨some 28, .load false 1 (.tmp 27), none, [27], [6]⟩,
    ⟨some 29, .foff 3 (.tmp 5), none, [5], []⟩,
    ⟨some 30, .load false 1 (.tmp 29), none, [29], [8]⟩,
    ⟨some 31, .call 62 [(.tmp 30)], none, [30], [9, 8]⟩,
    ⟨some 32, .foff 4 (.tmp 5), none, [5], []⟩,
    ⟨some 33, .load true 2 (.tmp 32), none, [32], [11]⟩,
    ⟨some 34, .call 63 [(.tmp 33)], none, [33], [12, 10, 11, 9, 8]⟩,
    ⟨some 35, .build [(.int .i64 (0)), (.bool false), (.int .i64 (0)), (.slice none 0 0), (.int .i64 (0)), (.slice none 0 0)] [(0, 1, (.tmp 24)), (1, 1, (.tmp 26)), (2, 1, (.tmp 28)), (3, 1, (.tmp 31)), (4, 2, (.tmp 34))], none, [24, 26, 28, 31, 34], [3, 5, 7, 10, 13, 2, 4, 6, 9, 8, 12, 11]⟩,
    ⟨some 36, .bslice 118 6 1 [(.int .i64 (0)), (.bool false), (.int .i64 (0)), (.slice none 0 0), (.int .i64 (0)), (.slice none 0 0)] [(0, 6, (.tmp 35))], none, [35], [14, 3, 5, 7, 10, 13, 2, 4, 6, 9, 8, 12, 11]⟩,
    ⟨some 37, .append 118 6 80 (.tmp 22) (.tmp 36), none, [22, 36], [1, 15, 13, 0, 14, 3, 5, 7, 10, 2, 4, 6, 9, 8, 12, 11]⟩,
    ⟨some 38, .foff 0 (.tmp 3), none, [3], [0, 1, 2, 3, 4, 5, 6, 7, 8, 9, 10, 11, 12, 13, 14, 15, 16]⟩,
    ⟨none, .store 1 (.tmp 38) (.tmp 37), none, [38, 37], [17, 16, 0, 1, 2, 3, 4, 5, 6, 7, 8, 9, 10, 11, 12, 13, 14, 15]⟩] [1, 2, 3, 4])))
(.reg false [⟨some 14, .mv (.tmp 4), none, [4], []⟩,
    ⟨some 15, .bin .add (.tmp 14) (.const (.int .i64 (1))), none, [14], []⟩,
    ⟨some 4, .mv (.tmp 15), none, [15], []⟩] [1, 2, 3, 4]))))))
(.seq (.reg false [⟨some 39, .load true 2 (.tmp 3), none, [3], []⟩,
    ⟨none, .store 2 (.tmp 2) (.tmp 39), none, [2, 39], []⟩] [2])
.ret))))
theorem ok_17 : FnOk Tryz.prog 17 40 ac_17 [.cell 2 true 2] := ⟨Tryz.f17, Tryz.func17, by kernel_rfl, by kernel_rfl, by kernel_rfl, by kernel_rfl, by kernel_rfl⟩
def ac_18 : AC :=
(.seq (.reg false [⟨some 2, .box 28 (.tmp 0), none, [0], []⟩,
    ⟨some 4, .new 28 [(.slice none 0 0), (.int .i64 (0))], none, [], []⟩,
    ⟨some 5, .mv (.const (.int .i64 (0))), none, [], []⟩] [1, 2, 4])
(.seq (.reg false [⟨some 6, .load true 2 (.tmp 2), none, [2], []⟩,
    ⟨some 7, .mv (.tmp 1), none, [1], []⟩,
    ⟨some 8, .bslice 9 1 1 [(.string (ByteArray.mk #[]))] [(0, 1, (.tmp 7))], none, [7], []⟩,
    ⟨some 9, .call 59 [(.tmp 6), (.tmp 8), (.func 64)], none, [6, 8], []⟩,
    ⟨some 10, .ext 0 (.tmp 9), none, [9], []⟩,
    ⟨some 11, .ext 1 (.tmp 9), none, [9], []⟩,
    ⟨none, .store 2 (.tmp 4) (.tmp 10), none, [4, 10], []⟩,
    ⟨some 5, .mv (.tmp 11), none, [11], []⟩] [4, 5])
.ret))
theorem ok_18 : FnOk Tryz.prog 18 12 ac_18 [.cell 4 true 2, .tmp 5] := ⟨Tryz.f18, Tryz.func18, by kernel_rfl, by kernel_rfl, by kernel_rfl, by kernel_rfl, by kernel_rfl⟩
def ac_19 : AC :=
(.seq (.reg false [⟨some 2, .mv (.const (.int .i64 (0))), none, [], []⟩] [0])
(.seq (.reg false [⟨some 3, .mv (.tmp 0), none, [0], []⟩,
    ⟨some 2, .mv (.tmp 3), none, [3], []⟩] [2])
.ret))
theorem ok_19 : FnOk Tryz.prog 19 4 ac_19 [.tmp 2] := ⟨Tryz.f19, Tryz.func19, by kernel_rfl, by kernel_rfl, by kernel_rfl, by kernel_rfl, by kernel_rfl⟩
def ac_20 : AC :=
(.seq (.reg false [⟨some 2, .box 28 (.tmp 0), none, [0], []⟩,
    ⟨some 4, .new 28 [(.slice none 0 0), (.int .i64 (0))], none, [], []⟩,
    ⟨some 5, .mv (.const (.int .i64 (0))), none, [], []⟩] [1, 2, 4])
(.seq (.reg false [⟨some 6, .load true 2 (.tmp 2), none, [2], []⟩,
    ⟨some 7, .mv (.tmp 1), none, [1], []⟩,
    ⟨some 8, .bslice 9 1 1 [(.string (ByteArray.mk #[]))] [(0, 1, (.tmp 7))], none, [7], []⟩,
    ⟨some 9, .call 59 [(.tmp 6), (.tmp 8), (.func 65)], none, [6, 8], []⟩,
    ⟨some 10, .ext 0 (.tmp 9), none, [9], []⟩,
    ⟨some 11, .ext 1 (.tmp 9), none, [9], []⟩,
    ⟨none, .store 2 (.tmp 4) (.tmp 10), none, [4, 10], []⟩,
    ⟨some 5, .mv (.tmp 11), none, [11], []⟩] [4, 5])
.ret))
theorem ok_20 : FnOk Tryz.prog 20 12 ac_20 [.cell 4 true 2, .tmp 5] := ⟨Tryz.f20, Tryz.func20, by kernel_rfl, by kernel_rfl, by kernel_rfl, by kernel_rfl, by kernel_rfl⟩
def ac_21 : AC :=
(.seq (.reg false [⟨some 2, .box 28 (.tmp 0), none, [0], []⟩,
    ⟨some 4, .new 28 [(.slice none 0 0), (.int .i64 (0))], none, [], []⟩,
    ⟨some 5, .mv (.const (.int .i64 (0))), none, [], []⟩] [1, 2, 4])
(.seq (.reg false [⟨some 6, .load true 2 (.tmp 2), none, [2], []⟩,
    ⟨some 7, .mv (.tmp 1), none, [1], []⟩,
    ⟨some 8, .bslice 9 1 1 [(.string (ByteArray.mk #[]))] [(0, 1, (.tmp 7))], none, [7], []⟩,
    ⟨some 9, .call 59 [(.tmp 6), (.tmp 8), (.func 67)], none, [6, 8], []⟩,
    ⟨some 10, .ext 0 (.tmp 9), none, [9], []⟩,
    ⟨some 11, .ext 1 (.tmp 9), none, [9], []⟩,
    ⟨none, .store 2 (.tmp 4) (.tmp 10), none, [4, 10], []⟩,
    ⟨some 5, .mv (.tmp 11), none, [11], []⟩] [4, 5])
.ret))
theorem ok_21 : FnOk Tryz.prog 21 12 ac_21 [.cell 4 true 2, .tmp 5] := ⟨Tryz.f21, Tryz.func21, by kernel_rfl, by kernel_rfl, by kernel_rfl, by kernel_rfl, by kernel_rfl⟩
def ac_25 : AC :=
(.seq (.reg false [⟨some 4, .box 28 (.tmp 0), none, [0], []⟩,
    ⟨some 5, .box 9 (.tmp 1), none, [1], []⟩,
    ⟨some 6, .box 3 (.tmp 2), none, [2], []⟩,
    ⟨some 7, .box 37 (.tmp 3), none, [3], []⟩,
    ⟨some 8, .new 28 [(.slice none 0 0), (.int .i64 (0))], none, [], []⟩,
    ⟨some 9, .mv (.const (.int .i64 (0))), none, [], []⟩,
    ⟨some 10, .mv (.const (.int .i64 (0))), none, [], []⟩] [4, 5, 6, 7, 8])
(.seq (.reg false [⟨some 14, .load true 2 (.tmp 4), none, [4], []⟩,
    ⟨some 15, .load false 1 (.tmp 5), none, [5], []⟩,
    ⟨some 16, .bslice 9 1 1 [(.string (ByteArray.mk #[]))] [(0, 1, (.tmp 15))], none, [15], []⟩,
    ⟨some 17, .clo 74 [(.tmp 6), (.tmp 7), (.tmp 5)], none, [6, 7, 5], []⟩,
    ⟨some 18, .call 59 [(.tmp 14), (.tmp 16), (.tmp 17)], none, [14, 16, 17], []⟩,
    ⟨some 13, .mv (.tmp 18), none, [18], []⟩,
    ⟨some 19, .ext 0 (.tmp 13), none, [13], []⟩,
    ⟨some 20, .ext 1 (.tmp 13), none, [13], []⟩,
    ⟨some 11, .new 28 [(.slice none 0 0), (.int .i64 (0))], none, [], []⟩,
    ⟨none, .store 2 (.tmp 11) (.tmp 19), none, [11, 19], []⟩,
    ⟨some 12, .mv (.tmp 20), none, [20], []⟩] [7, 8, 11, 12])
(.seq (.seq (.reg false [⟨some 21, .mv (.tmp 12), none, [12], []⟩,
    ⟨some 22, .bin .neq (.tmp 21) (.const (.int .i64 (0))), none, [21], []⟩] [7, 8, 11, 12, 22])
(.cond (.tmp 22)
(.seq (.reg false [⟨some 23, .build [(.slice none 0 0), (.int .i64 (0))] [], none, [], []⟩,
    ⟨some 24, .mv (.tmp 12), none, [12], []⟩,
    ⟨none, .store 2 (.tmp 8) (.tmp 23), none, [8, 23], []⟩,
    ⟨some 9, .mv (.const (.int .i64 (0))), none, [], []⟩,
    ⟨some 10, .mv (.tmp 24), none, [24], []⟩] [8, 9, 10])
.ret)
.skip))
(.seq (.reg true [⟨some 25, .load true 2 (.tmp 11), none, [11], []⟩,
    ⟨some 26, .load false 1 (.tmp 7), none, [7], []⟩,
    ⟨some 27, .len false (.tmp 26), none, [26], [1]⟩,
    ⟨none, .store 2 (.tmp 8) (.tmp 25), none, [8, 25], [0]⟩,
    ⟨some 9, .mv (.tmp 27), none, [27], [2, 3, 0, 1]⟩,
    ⟨some 10, .mv (.const (.int .i64 (0))), none, [], [4, 0, 1, 2, 3]⟩] [8, 9, 10])
.ret))))
theorem ok_25 : FnOk Tryz.prog 25 28 ac_25 [.cell 8 true 2, .tmp 9, .tmp 10] := ⟨Tryz.f25, Tryz.func25, by kernel_rfl, by kernel_rfl, by kernel_rfl, by kernel_rfl, by kernel_rfl⟩
def ac_26 : AC :=
(.seq (.reg false [⟨some 4, .box 28 (.tmp 0), none, [0], []⟩,
    ⟨some 8, .mv (.const (.slice none 0 0)), none, [], []⟩,
    ⟨some 9, .mv (.const (.int .i64 (0))), none, [], []⟩] [1, 2, 3, 4])
(.seq (.reg false [⟨some 13, .load true 2 (.tmp 4), none, [4], []⟩,
    ⟨some 14, .mv (.tmp 1), none, [1], []⟩,
    ⟨some 15, .call 78 [(.tmp 13), (.tmp 14)], none, [13, 14], []⟩,
    ⟨some 12, .mv (.tmp 15), none, [15], []⟩,
    ⟨some 16, .ext 0 (.tmp 12), none, [12], []⟩,
    ⟨some 17, .ext 1 (.tmp 12), none, [12], []⟩,
    ⟨some 10, .mv (.tmp 16), none, [16], []⟩,
    ⟨some 11, .mv (.tmp 17), none, [17], []⟩] [2, 3, 10, 11])
(.seq (.block 0 (.seq (.reg false [⟨some 19, .mv (.tmp 11), none, [11], []⟩,
    ⟨some 20, .isnil true .nilIface (.tmp 19), none, [19], []⟩,
    ⟨some 18, .mv (.tmp 20), none, [20], []⟩] [2, 3, 10, 11, 18])
(.cond (.tmp 18)
(.seq (.reg false [⟨some 21, .mv (.tmp 11), none, [11], []⟩,
    ⟨some 22, .call 79 [(.tmp 21)], none, [21], []⟩,
    ⟨some 8, .mv (.const (.slice none 0 0)), none, [], []⟩,
    ⟨some 9, .mv (.tmp 22), none, [22], []⟩] [8, 9])
.ret)
(.seq (.reg false [⟨some 24, .mv (.tmp 10), none, [10], []⟩,
    ⟨some 25, .nilc (.tmp 24), none, [24], []⟩,
    ⟨some 26, .foff 1 (.tmp 25), none, [25], []⟩,
    ⟨some 27, .load false 1 (.tmp 26), none, [26], []⟩,
    ⟨some 23, .mv (.tmp 27), none, [27], []⟩] [2, 3, 10, 23])
(.cond (.tmp 23)
(.seq (.reg false [⟨some 8, .mv (.const (.slice none 0 0)), none, [], []⟩,
    ⟨some 9, .mv (.const (.int .i64 (104))), none, [], []⟩] [8, 9])
.ret)
.skip)))))
(.seq (.reg false [⟨some 28, .mv (.tmp 10), none, [10], []⟩,
    ⟨some 29, .nilc (.tmp 28), none, [28], []⟩,
    ⟨some 30, .foff 4 (.tmp 29), none, [29], []⟩,
    ⟨some 31, .load true 2 (.tmp 30), none, [30], []⟩,
    ⟨some 32, .mv (.tmp 2), none, [2], []⟩,
    ⟨some 33, .mv (.tmp 3), none, [3], []⟩,
    ⟨some 34, .call 80 [(.tmp 31), (.tmp 32), (.tmp 33)], none, [31, 32, 33], []⟩,
    ⟨some 35, .ext 0 (.tmp 34), none, [34], []⟩,
    ⟨some 36, .ext 1 (.tmp 34), none, [34], []⟩,
    ⟨some 8, .mv (.tmp 35), none, [35], []⟩,
    ⟨some 9, .mv (.tmp 36), none, [36], []⟩] [8, 9])
.ret))))
theorem ok_26 : FnOk Tryz.prog 26 37 ac_26 [.tmp 8, .tmp 9] := ⟨Tryz.f26, Tryz.func26, by kernel_rfl, by kernel_rfl, by kernel_rfl, by kernel_rfl, by kernel_rfl⟩
def ac_28 : AC :=
(.seq (.reg false [⟨some 2, .box 28 (.tmp 0), none, [0], []⟩,
    ⟨some 4, .mv (.const (.slice none 0 0)), none, [], []⟩,
    ⟨some 5, .mv (.const (.int .i64 (0))), none, [], []⟩] [1, 2])
(.seq (.reg false [⟨some 12, .load true 2 (.tmp 2), none, [2], []⟩,
    ⟨some 13, .mv (.tmp 1), none, [1], []⟩,
    ⟨some 14, .call 78 [(.tmp 12), (.tmp 13)], none, [12, 13], []⟩,
    ⟨some 11, .mv (.tmp 14), none, [14], []⟩,
    ⟨some 15, .ext 0 (.tmp 11), none, [11], []⟩,
    ⟨some 16, .ext 1 (.tmp 11), none, [11], []⟩,
    ⟨some 6, .mv (.tmp 15), none, [15], []⟩,
    ⟨some 7, .mv (.tmp 16), none, [16], []⟩] [6, 7])
(.seq (.block 0 (.seq (.reg false [⟨some 18, .mv (.tmp 7), none, [7], []⟩,
    ⟨some 19, .isnil true .nilIface (.tmp 18), none, [18], []⟩,
    ⟨some 17, .mv (.tmp 19), none, [19], []⟩] [6, 7, 17])
(.cond (.tmp 17)
(.seq (.reg false [⟨some 20, .mv (.tmp 7), none, [7], []⟩,
    ⟨some 21, .call 79 [(.tmp 20)], none, [20], []⟩,
    ⟨some 4, .mv (.const (.slice none 0 0)), none, [], []⟩,
    ⟨some 5, .mv (.tmp 21), none, [21], []⟩] [4, 5])
.ret)
(.seq (.reg false [⟨some 23, .mv (.tmp 6), none, [6], []⟩,
    ⟨some 24, .nilc (.tmp 23), none, [23], []⟩,
    ⟨some 25, .foff 1 (.tmp 24), none, [24], []⟩,
    ⟨some 26, .load false 1 (.tmp 25), none, [25], []⟩,
    ⟨some 27, .un .not (.tmp 26), none, [26], []⟩,
    ⟨some 22, .mv (.tmp 27), none, [27], []⟩] [6, 22])
(.cond (.tmp 22)
(.seq (.reg false [⟨some 4, .mv (.const (.slice none 0 0)), none, [], []⟩,
    ⟨some 5, .mv (.const (.int .i64 (103))), none, [], []⟩] [4, 5])
.ret)
.skip)))))
(.seq (.reg false [⟨some 8, .mv (.const (.slice none 0 0)), none, [], []⟩] [6, 8])
(.seq (.seq (.reg false [⟨some 28, .mv (.tmp 6), none, [6], []⟩,
    ⟨some 29, .nilc (.tmp 28), none, [28], []⟩,
    ⟨some 30, .foff 3 (.tmp 29), none, [29], []⟩,
    ⟨some 31, .load false 1 (.tmp 30), none, [30], []⟩,
    ⟨some 32, .len false (.tmp 31), none, [31], []⟩,
    ⟨some 33, .mv (.const (.int .i64 (0))), none, [], []⟩] [8, 31, 32, 33])
(.block 1 (.loop (.seq (.reg false [⟨some 34, .bin .lss (.tmp 33) (.tmp 32), none, [33, 32], []⟩] [8, 31, 32, 33, 34])
(.seq (.cond (.tmp 34)
.skip
(.exit 1))
(.seq (.block 2 (.seq (.reg false [⟨some 35, .idx 2 (.tmp 31) (.tmp 33), none, [31, 33], []⟩,
    ⟨some 36, .load true 2 (.tmp 35), none, [35], []⟩,
    ⟨some 10, .new 134 [(.string (ByteArray.mk #[])), (.int .i64 (0))], none, [], []⟩,
    ⟨none, .store 2 (.tmp 10) (.tmp 36), none, [10, 36], []⟩] [8, 10, 31, 32, 33])
(.reg false [⟨some 37, .mv (.tmp 8), none, [8], []⟩,
    ⟨some 38, .foff 0 (.tmp 10), none, [10], []⟩,
    ⟨some 39, .load false 1 (.tmp 38), none, [38], []⟩,
    ⟨some 40, .bslice 9 1 1 [(.string (ByteArray.mk #[]))] [(0, 1, (.tmp 39))], none, [39], []⟩,
    ⟨some 41, .append 9 1 16 (.tmp 37) (.tmp 40), none, [37, 40], []⟩,
    ⟨some 8, .mv (.tmp 41), none, [41], []⟩] [8, 31, 32, 33])))
(.reg false [⟨some 42, .bin .add (.tmp 33) (.const (.int .i64 (1))), none, [33], []⟩,
    ⟨some 33, .mv (.tmp 42), none, [42], []⟩] [8, 31, 32, 33])))))))
(.seq (.reg false [⟨some 43, .mv (.tmp 8), none, [8], []⟩,
    ⟨some 4, .mv (.tmp 43), none, [43], []⟩,
    ⟨some 5, .mv (.const (.int .i64 (0))), none, [], []⟩] [4, 5])
.ret))))))
theorem ok_28 : FnOk Tryz.prog 28 44 ac_28 [.tmp 4, .tmp 5] := ⟨Tryz.f28, Tryz.func28, by kernel_rfl, by kernel_rfl, by kernel_rfl, by kernel_rfl, by kernel_rfl⟩
def ac_29 : AC :=
(.seq (.reg false [⟨some 2, .box 28 (.tmp 0), none, [0], []⟩,
    ⟨some 4, .mv (.const (.int .i64 (0))), none, [], []⟩,
    ⟨some 5, .mv (.const (.bool false)), none, [], []⟩,
    ⟨some 6, .mv (.const (.int .i64 (0))), none, [], []⟩,
    ⟨some 7, .mv (.const (.int .i64 (0))), none, [], []⟩,
    ⟨some 8, .mv (.const (.int .i64 (0))), none, [], []⟩] [1, 2])
(.seq (.reg false [⟨some 12, .load true 2 (.tmp 2), none, [2], []⟩,
    ⟨some 13, .mv (.tmp 1), none, [1], []⟩,
    ⟨some 14, .call 78 [(.tmp 12), (.tmp 13)], none, [12, 13], []⟩,
    ⟨some 11, .mv (.tmp 14), none, [14], []⟩,
    ⟨some 15, .ext 0 (.tmp 11), none, [11], []⟩,
    ⟨some 16, .ext 1 (.tmp 11), none, [11], []⟩,
    ⟨some 9, .mv (.tmp 15), none, [15], []⟩,
    ⟨some 10, .mv (.tmp 16), none, [16], []⟩] [9, 10])
(.seq (.seq (.reg false [⟨some 17, .mv (.tmp 10), none, [10], []⟩,
    ⟨some 18, .isnil true .nilIface (.tmp 17), none, [17], []⟩] [9, 10, 18])
(.cond (.tmp 18)
(.seq (.reg false [⟨some 19, .mv (.tmp 10), none, [10], []⟩,
    ⟨some 20, .call 79 [(.tmp 19)], none, [19], []⟩,
    ⟨some 4, .mv (.const (.int .i64 (0))), none, [], []⟩,
    ⟨some 5, .mv (.const (.bool false)), none, [], []⟩,
    ⟨some 6, .mv (.const (.int .i64 (0))), none, [], []⟩,
    ⟨some 7, .mv (.const (.int .i64 (0))), none, [], []⟩,
    ⟨some 8, .mv (.tmp 20), none, [20], []⟩] [4, 5, 6, 7, 8])
.ret)
.skip))
(.seq (.seq (.reg false [⟨some 21, .mv (.tmp 9), none, [9], []⟩,
    ⟨some 22, .nilc (.tmp 21), none, [21], []⟩,
    ⟨some 23, .foff 1 (.tmp 22), none, [22], []⟩,
    ⟨some 24, .load false 1 (.tmp 23), none, [23], []⟩] [9, 24])
(.cond (.tmp 24)
(.seq (.reg true [⟨some 25, .mv (.tmp 9), none, [9], []⟩,
    ⟨some 26, .nilc (.tmp 25), none, [25], [0]⟩,
    ⟨some 27, .foff 0 (.tmp 26), none, [26], [1, 0]⟩,
    ⟨some 28, .load false 1 (.tmp 27), none, [27], [2, 1, 0]⟩,
    ⟨some 29, .mv (.tmp 9), none, [9], []⟩,
    ⟨some 30, .nilc (.tmp 29), none, [29], [4]⟩,
    ⟨some 31, .foff 3 (.tmp 30), none, [30], [5, 4]⟩,
    ⟨some 32, .load false 1 (.tmp 31), none, [31], [6, 5, 4]⟩,
    ⟨some 33, .len false (.tmp 32), none, [32], [7, 6, 5, 4]⟩,
    ⟨some 34, .mv (.tmp 9), none, [9], []⟩,
    ⟨some 35, .nilc (.tmp 34), none, [34], [9]⟩,
    ⟨some 36, .foff 2 (.tmp 35), none, [35], [10, 9]⟩,
    ⟨some 37, .load false 1 (.tmp 36), none, [36], [11, 10, 9]⟩,
    ⟨some 4, .mv (.tmp 28), none, [28], [3, 0, 1, 2]⟩,
    ⟨some 5, .mv (.const (.bool true)), none, [], [13, 0, 1, 2, 3]⟩,
    ⟨some 6, .mv (.tmp 33), none, [33], [8, 14, 0, 1, 2, 3, 4, 5, 6, 7, 13]⟩,
    ⟨some 7, .mv (.tmp 37), none, [37], [12, 15, 0, 1, 2, 3, 4, 5, 6, 7, 8, 9, 10, 11, 13, 14]⟩,
    ⟨some 8, .mv (.const (.int .i64 (0))), none, [], [16, 0, 1, 2, 3, 4, 5, 6, 7, 8, 9, 10, 11, 12, 13, 14, 15]⟩] [4, 5, 6, 7, 8])
.ret)
.skip))
(.seq (.reg true [⟨some 38, .mv (.tmp 9), none, [9], []⟩,
    ⟨some 39, .nilc (.tmp 38), none, [38], [0]⟩,
    ⟨some 40, .foff 0 (.tmp 39), none, [39], [1, 0]⟩,
    ⟨some 41, .load false 1 (.tmp 40), none, [40], [2, 1, 0]⟩,
    ⟨some 42, .mv (.tmp 9), none, [9], []⟩,
    ⟨some 43, .nilc (.tmp 42), none, [42], [4]⟩,
    ⟨some 44, .foff 4 (.tmp 43), none, [43], [5, 4]⟩,
    ⟨some 45, .foff 0 (.tmp 44), none, [44], [6, 5, 4]⟩,
    ⟨some 46, .load false 1 (.tmp 45), none, [45], [7, 6, 5, 4]⟩,
    ⟨some 47, .mv (.tmp 9), none, [9], []⟩,
    ⟨some 48, .nilc (.tmp 47), none, [47], [9]⟩,
    ⟨some 49, .foff 2 (.tmp 48), none, [48], [10, 9]⟩,
    ⟨some 50, .load false 1 (.tmp 49), none, [49], [11, 10, 9]⟩,
    ⟨some 4, .mv (.tmp 41), none, [41], [3, 0, 1, 2]⟩,
    ⟨some 5, .mv (.const (.bool false)), none, [], [13, 0, 1, 2, 3]⟩,
    ⟨some 6, .mv (.tmp 46), none, [46], [8, 14, 0, 1, 2, 3, 4, 5, 6, 7, 13]⟩,
    ⟨some 7, .mv (.tmp 50), none, [50], [12, 15, 0, 1, 2, 3, 4, 5, 6, 7, 8, 9, 10, 11, 13, 14]⟩,
    ⟨some 8, .mv (.const (.int .i64 (0))), none, [], [16, 0, 1, 2, 3, 4, 5, 6, 7, 8, 9, 10, 11, 12, 13, 14, 15]⟩] [4, 5, 6, 7, 8])
.ret)))))
theorem ok_29 : FnOk Tryz.prog 29 51 ac_29 [.tmp 4, .tmp 5, .tmp 6, .tmp 7, .tmp 8] := ⟨Tryz.f29, Tryz.func29, by kernel_rfl, by kernel_rfl, by kernel_rfl, by kernel_rfl, by kernel_rfl⟩
def ac_30 : AC :=
(.seq (.reg false [⟨some 2, .box 28 (.tmp 0), none, [0], []⟩,
    ⟨some 4, .mv (.const (.int .i64 (0))), none, [], []⟩,
    ⟨some 5, .mv (.const (.int .i64 (0))), none, [], []⟩] [1, 2])
(.seq (.reg false [⟨some 9, .load true 2 (.tmp 2), none, [2], []⟩,
    ⟨some 10, .mv (.tmp 1), none, [1], []⟩,
    ⟨some 11, .call 78 [(.tmp 9), (.tmp 10)], none, [9, 10], []⟩,
    ⟨some 8, .mv (.tmp 11), none, [11], []⟩,
    ⟨some 12, .ext 0 (.tmp 8), none, [8], []⟩,
    ⟨some 13, .ext 1 (.tmp 8), none, [8], []⟩,
    ⟨some 6, .mv (.tmp 12), none, [12], []⟩,
    ⟨some 7, .mv (.tmp 13), none, [13], []⟩] [6, 7])
(.seq (.seq (.reg false [⟨some 14, .mv (.tmp 7), none, [7], []⟩,
    ⟨some 15, .isnil true .nilIface (.tmp 14), none, [14], []⟩] [6, 7, 15])
(.cond (.tmp 15)
(.seq (.reg false [⟨some 16, .mv (.tmp 7), none, [7], []⟩,
    ⟨some 17, .call 79 [(.tmp 16)], none, [16], []⟩,
    ⟨some 4, .mv (.const (.int .i64 (0))), none, [], []⟩,
    ⟨some 5, .mv (.tmp 17), none, [17], []⟩] [4, 5])
.ret)
.skip))
(.seq (.reg false [⟨some 18, .mv (.tmp 6), none, [6], []⟩,
    ⟨some 19, .nilc (.tmp 18), none, [18], []⟩,
    ⟨some 20, .foff 0 (.tmp 19), none, [19], []⟩,
    ⟨some 21, .load false 1 (.tmp 20), none, [20], []⟩,
    ⟨some 4, .mv (.tmp 21), none, [21], []⟩,
    ⟨some 5, .mv (.const (.int .i64 (0))), none, [], []⟩] [4, 5])
.ret))))
theorem ok_30 : FnOk Tryz.prog 30 22 ac_30 [.tmp 4, .tmp 5] := ⟨Tryz.f30, Tryz.func30, by kernel_rfl, by kernel_rfl, by kernel_rfl, by kernel_rfl, by kernel_rfl⟩
def ac_37 : AC :=
(.seq (.reg false [⟨some 0, .new 28 [(.slice none 0 0), (.int .i64 (0))], none, [], []⟩] [0])
(.seq (.reg false [⟨some 1, .build [(.int .i64 (0)), (.bool false), (.int .i64 (0)), (.slice none 0 0), (.int .i64 (0)), (.slice none 0 0)] [(0, 1, (.const (.int .i64 (1)))), (1, 1, (.const (.bool true)))], none, [], []⟩,
    ⟨some 2, .bslice 118 6 1 [(.int .i64 (0)), (.bool false), (.int .i64 (0)), (.slice none 0 0), (.int .i64 (0)), (.slice none 0 0)] [(0, 6, (.tmp 1))], none, [1], []⟩,
    ⟨some 3, .build [(.slice none 0 0), (.int .i64 (0))] [(0, 1, (.tmp 2)), (1, 1, (.const (.int .i64 (2))))], none, [2], []⟩,
    ⟨none, .store 2 (.tmp 0) (.tmp 3), none, [0, 3], []⟩] [0])
.ret))
theorem ok_37 : FnOk Tryz.prog 37 4 ac_37 [.cell 0 true 2] := ⟨Tryz.f37, Tryz.func37, by kernel_rfl, by kernel_rfl, by kernel_rfl, by kernel_rfl, by kernel_rfl⟩
def ac_42 : AC :=
(.seq (.reg false [⟨some 2, .mv (.const (.slice none 0 0)), none, [], []⟩] [0])
(.seq (.reg false [⟨some 3, .mv (.const (.slice none 0 0)), none, [], []⟩] [0, 3])
(.seq (.reg false [⟨some 4, .mv (.tmp 3), none, [3], []⟩,
    ⟨some 5, .mv (.tmp 0), none, [0], []⟩,
    ⟨some 6, .append 5 1 1 (.tmp 4) (.tmp 5), none, [4, 5], []⟩,
    ⟨some 2, .mv (.tmp 6), none, [6], []⟩] [2])
.ret)))
theorem ok_42 : FnOk Tryz.prog 42 7 ac_42 [.tmp 2] := ⟨Tryz.f42, Tryz.func42, by kernel_rfl, by kernel_rfl, by kernel_rfl, by kernel_rfl, by kernel_rfl⟩
end Go.Proofs.YtonglhkiobibgaaGreatDoor
namespace Go.Proofs.YtonglhkiobibgaaGreatDoor
set_option maxRecDepth 100000
def ac_59 : AC :=
(.seq (.reg false [⟨some 3, .box 28 (.tmp 0), none, [0], []⟩,
    ⟨some 6, .new 28 [(.slice none 0 0), (.int .i64 (0))], none, [], []⟩,
    ⟨some 7, .mv (.const (.int .i64 (0))), none, [], []⟩] [1, 2, 3, 6])
(.seq (.seq (.reg false [⟨some 16, .load true 2 (.tmp 3), none, [3], []⟩,
    ⟨some 17, .call 32 [(.tmp 16)], none, [16], []⟩,
    ⟨some 8, .mv (.tmp 17), none, [17], []⟩] [1, 2, 3, 6, 8])
(.seq (.reg false [⟨some 18, .mv (.tmp 8), none, [8], []⟩,
    ⟨some 19, .bin .neq (.tmp 18) (.const (.int .i64 (0))), none, [18], []⟩] [1, 2, 3, 6, 8, 19])
(.cond (.tmp 19)
(.seq (.reg false [⟨some 20, .build [(.slice none 0 0), (.int .i64 (0))] [], none, [], []⟩,
    ⟨some 21, .mv (.tmp 8), none, [8], []⟩,
    ⟨none, .store 2 (.tmp 6) (.tmp 20), none, [6, 20], []⟩,
    ⟨some 7, .mv (.tmp 21), none, [21], []⟩] [6, 7])
.ret)
.skip)))
(.seq (.reg false [⟨some 9, .mv (.const (.slice none 0 0)), none, [], []⟩] [1, 2, 3, 6, 9])
(.seq (.seq (.reg false [⟨some 22, .mv (.tmp 1), none, [1], []⟩,
    ⟨some 23, .len false (.tmp 22), none, [22], []⟩,
    ⟨some 24, .mv (.const (.int .i64 (0))), none, [], []⟩] [2, 3, 6, 9, 22, 23, 24])
(.block 0 (.loop (.seq (.reg false [⟨some 25, .bin .lss (.tmp 24) (.tmp 23), none, [24, 23], []⟩] [2, 3, 6, 9, 22, 23, 24, 25])
(.seq (.cond (.tmp 25)
.skip
(.exit 0))
(.seq (.block 1 (.seq (.reg false [⟨some 26, .idx 1 (.tmp 22) (.tmp 24), none, [22, 24], []⟩,
    ⟨some 27, .load false 1 (.tmp 26), none, [26], []⟩,
    ⟨some 11, .mv (.tmp 27), none, [27], []⟩] [2, 3, 6, 9, 11, 22, 23, 24])
(.seq (.reg false [⟨some 29, .mv (.tmp 11), none, [11], []⟩,
    ⟨some 30, .call 110 [(.tmp 29)], none, [29], []⟩,
    ⟨some 28, .mv (.tmp 30), none, [30], []⟩,
    ⟨some 31, .ext 0 (.tmp 28), none, [28], []⟩,
    ⟨some 32, .ext 1 (.tmp 28), none, [28], []⟩,
    ⟨some 12, .mv (.tmp 31), none, [31], []⟩,
    ⟨some 13, .mv (.tmp 32), none, [32], []⟩] [2, 3, 6, 9, 12, 13, 22, 23, 24])
(.seq (.seq (.reg false [⟨some 33, .mv (.tmp 13), none, [13], []⟩,
    ⟨some 34, .bin .neq (.tmp 33) (.const (.int .i64 (0))), none, [33], []⟩] [2, 3, 6, 9, 12, 13, 22, 23, 24, 34])
(.cond (.tmp 34)
(.seq (.reg false [⟨some 35, .build [(.slice none 0 0), (.int .i64 (0))] [], none, [], []⟩,
    ⟨some 36, .mv (.tmp 13), none, [13], []⟩,
    ⟨none, .store 2 (.tmp 6) (.tmp 35), none, [6, 35], []⟩,
    ⟨some 7, .mv (.tmp 36), none, [36], []⟩] [6, 7])
.ret)
.skip))
(.reg false [⟨some 37, .mv (.tmp 9), none, [9], []⟩,
    ⟨some 38, .mv (.tmp 12), none, [12], []⟩,
    ⟨some 39, .bslice 45 1 1 [(.slice none 0 0)] [(0, 1, (.tmp 38))], none, [38], []⟩,
    ⟨some 40, .append 45 1 24 (.tmp 37) (.tmp 39), none, [37, 39], []⟩,
    ⟨some 9, .mv (.tmp 40), none, [40], []⟩] [2, 3, 6, 9, 22, 23, 24])))))
(.reg false [⟨some 41, .bin .add (.tmp 24) (.const (.int .i64 (1))), none, [24], []⟩,
    ⟨some 24, .mv (.tmp 41), none, [41], []⟩] [2, 3, 6, 9, 22, 23, 24])))))))
(.seq (.reg false [⟨some 42, .load true 2 (.tmp 3), none, [3], []⟩,
    ⟨some 43, .call 111 [(.tmp 42)], none, [42], []⟩,
    ⟨some 14, .mv (.tmp 43), none, [43], []⟩] [2, 6, 9, 14])
(.seq (.seq (.reg false [⟨some 44, .mv (.tmp 2), none, [2], []⟩,
    ⟨some 45, .mv (.tmp 14), none, [14], []⟩,
    ⟨some 46, .mv (.tmp 9), none, [9], []⟩,
    ⟨some 47, .callv (.tmp 44) [(.tmp 45), (.tmp 46)], none, [44, 45, 46], []⟩,
    ⟨some 15, .mv (.tmp 47), none, [47], []⟩] [6, 14, 15])
(.seq (.reg false [⟨some 48, .mv (.tmp 15), none, [15], []⟩,
    ⟨some 49, .isnil true .nilIface (.tmp 48), none, [48], []⟩] [6, 14, 15, 49])
(.cond (.tmp 49)
(.seq (.reg false [⟨some 50, .build [(.slice none 0 0), (.int .i64 (0))] [], none, [], []⟩,
    ⟨some 51, .mv (.tmp 15), none, [15], []⟩,
    ⟨some 52, .call 79 [(.tmp 51)], none, [51], []⟩,
    ⟨none, .store 2 (.tmp 6) (.tmp 50), none, [6, 50], []⟩,
    ⟨some 7, .mv (.tmp 52), none, [52], []⟩] [6, 7])
.ret)
.skip)))
(.seq (.reg false [⟨some 53, .mv (.tmp 14), none, [14], []⟩,
    ⟨some 54, .nilc (.tmp 53), none, [53], []⟩,
    ⟨some 55, .load true 2 (.tmp 54), none, [54], []⟩,
    ⟨none, .store 2 (.tmp 6) (.tmp 55), none, [6, 55], []⟩,
    ⟨some 7, .mv (.const (.int .i64 (0))), none, [], []⟩] [6, 7])
.ret)))))))
theorem ok_59 : FnOk Tryz.prog 59 56 ac_59 [.cell 6 true 2, .tmp 7] := ⟨Tryz.f59, Tryz.func59, by kernel_rfl, by kernel_rfl, by kernel_rfl, by kernel_rfl, by kernel_rfl⟩
def ac_60 : AC :=
(.seq (.reg false [⟨some 4, .mv (.const .nilIface), none, [], []⟩] [0, 1])
(.seq (.reg false [⟨some 5, .mv (.tmp 0), none, [0], []⟩,
    ⟨some 6, .mv (.tmp 1), none, [1], []⟩,
    ⟨some 7, .idx 1 (.tmp 6) (.const (.int .i64 (0))), none, [6], []⟩,
    ⟨some 8, .load false 1 (.tmp 7), none, [7], []⟩,
    ⟨some 9, .call 61 [(.tmp 5), (.tmp 8), (.const (.bool false))], none, [5, 8], []⟩,
    ⟨some 4, .mv (.tmp 9), none, [9], []⟩] [4])
.ret))
theorem ok_60 : FnOk Tryz.prog 60 10 ac_60 [.tmp 4] := ⟨Tryz.f60, Tryz.func60, by kernel_rfl, by kernel_rfl, by kernel_rfl, by kernel_rfl, by kernel_rfl⟩
def ac_61 : AC :=
(.seq (.reg false [⟨some 6, .mv (.const .nilIface), none, [], []⟩] [0, 1, 2])
(.seq (.seq (.reg false [⟨some 10, .mv (.tmp 1), none, [1], []⟩,
    ⟨some 11, .len false (.tmp 10), none, [10], []⟩,
    ⟨some 12, .bin .eql (.tmp 11) (.const (.int .i64 (0))), none, [11], []⟩] [0, 1, 2, 12])
(.cond (.tmp 12)
(.seq (.reg false [⟨some 13, .call 77 [(.const (.int .i64 (102))), (.const (.string (ByteArray.mk #[47])))], none, [], []⟩,
    ⟨some 6, .mv (.tmp 13), none, [13], []⟩] [6])
.ret)
.skip))
(.seq (.reg false [⟨some 15, .mv (.tmp 0), none, [0], []⟩,
    ⟨some 16, .mv (.tmp 1), none, [1], []⟩,
    ⟨some 17, .call 112 [(.tmp 15), (.tmp 16)], none, [15, 16], []⟩,
    ⟨some 14, .mv (.tmp 17), none, [17], []⟩,
    ⟨some 18, .ext 0 (.tmp 14), none, [14], []⟩,
    ⟨some 19, .ext 1 (.tmp 14), none, [14], []⟩,
    ⟨some 7, .new 175 [(.int .i64 (0)), (.string (ByteArray.mk #[])), (.int .i64 (0))], none, [], []⟩,
    ⟨none, .store 3 (.tmp 7) (.tmp 18), none, [7, 18], []⟩,
    ⟨some 8, .mv (.tmp 19), none, [19], []⟩] [0, 2, 7, 8])
(.seq (.block 0 (.seq (.reg false [⟨some 21, .mv (.tmp 8), none, [8], []⟩,
    ⟨some 22, .isnil true .nilIface (.tmp 21), none, [21], []⟩,
    ⟨some 20, .mv (.tmp 22), none, [22], []⟩] [0, 2, 7, 8, 20])
(.cond (.tmp 20)
(.seq (.reg false [⟨some 23, .mv (.tmp 8), none, [8], []⟩,
    ⟨some 6, .mv (.tmp 23), none, [23], []⟩] [6])
.ret)
(.seq (.reg false [⟨some 25, .foff 2 (.tmp 7), none, [7], []⟩,
    ⟨some 26, .load false 1 (.tmp 25), none, [25], []⟩,
    ⟨some 27, .bin .neq (.tmp 26) (.const (.int .i64 (0))), none, [26], []⟩,
    ⟨some 24, .mv (.tmp 27), none, [27], []⟩] [0, 2, 7, 24])
(.cond (.tmp 24)
(.seq (.reg false [⟨some 28, .foff 1 (.tmp 7), none, [7], []⟩,
    ⟨some 29, .load false 1 (.tmp 28), none, [28], []⟩,
    ⟨some 30, .call 77 [(.const (.int .i64 (102))), (.tmp 29)], none, [29], []⟩,
    ⟨some 6, .mv (.tmp 30), none, [30], []⟩] [6])
.ret)
(.seq (.reg false [⟨some 32, .mv (.tmp 0), none, [0], []⟩,
    ⟨some 33, .nilc (.tmp 32), none, [32], []⟩,
    ⟨some 34, .foff 0 (.tmp 33), none, [33], []⟩,
    ⟨some 35, .load false 1 (.tmp 34), none, [34], []⟩,
    ⟨some 36, .len false (.tmp 35), none, [35], []⟩,
    ⟨some 37, .bin .geq (.tmp 36) (.const (.int .i64 (128))), none, [36], []⟩,
    ⟨some 38, .mv (.tmp 37), none, [37], []⟩,
    ⟨some 39, .mv (.tmp 0), some (38, false), [0, 38], []⟩,
    ⟨some 40, .nilc (.tmp 39), some (38, false), [39, 38], []⟩,
    ⟨some 41, .foff 1 (.tmp 40), some (38, false), [40, 38], []⟩,
    ⟨some 42, .load false 1 (.tmp 41), some (38, false), [41, 38], []⟩,
    ⟨some 43, .bin .geq (.tmp 42) (.const (.int .i64 (2147483647))), some (38, false), [42, 38], []⟩,
    ⟨some 44, .pick (.tmp 38) (.const (.bool true)) (.tmp 43), none, [38, 43], []⟩,
    ⟨some 31, .mv (.tmp 44), none, [44], []⟩] [0, 2, 7, 31])
(.cond (.tmp 31)
(.seq (.reg false [⟨some 45, .foff 1 (.tmp 7), none, [7], []⟩,
    ⟨some 46, .load false 1 (.tmp 45), none, [45], []⟩,
    ⟨some 47, .call 77 [(.const (.int .i64 (109))), (.tmp 46)], none, [46], []⟩,
    ⟨some 6, .mv (.tmp 47), none, [47], []⟩] [6])
.ret)
.skip)))))))
(.seq (.seq (.reg true [⟨some 48, .mv (.tmp 0), none, [0], []⟩,
    ⟨some 49, .load true 3 (.tmp 7), none, [7], []⟩,
    ⟨some 50, .mv (.tmp 0), none, [0], []⟩,
    ⟨some 51, .nilc (.tmp 50), none, [50], [2]⟩,
    ⟨some 52, .foff 1 (.tmp 51), none, [51], [3, 2]⟩,
    ⟨some 53, .load false 1 (.tmp 52), none, [52], [4, 3, 2]⟩,
    ⟨some 54, .call 113 [(.tmp 48), (.tmp 49), (.tmp 53)], none, [48, 49, 53], [0, 1, 5, 4, 3, 2]⟩,
    ⟨some 9, .mv (.tmp 54), none, [54], [6, 0, 1, 2, 3, 4, 5]⟩] [0, 2, 9])
(.seq (.reg false [⟨some 55, .mv (.tmp 9), none, [9], []⟩,
    ⟨some 56, .isnil true .nilIface (.tmp 55), none, [55], []⟩] [0, 2, 9, 56])
(.cond (.tmp 56)
(.seq (.reg false [⟨some 57, .mv (.tmp 9), none, [9], []⟩,
    ⟨some 58, .call 114 [(.const (.string (ByteArray.mk #[101, 110, 116, 101, 114]))), (.tmp 57)], none, [57], []⟩,
    ⟨some 6, .mv (.tmp 58), none, [58], []⟩] [6])
.ret)
.skip)))
(.seq (.reg true [⟨some 59, .mv (.tmp 0), none, [0], []⟩,
    ⟨some 60, .mv (.tmp 0), none, [0], []⟩,
    ⟨some 61, .nilc (.tmp 60), none, [60], [1]⟩,
    ⟨some 62, .foff 0 (.tmp 61), none, [61], [2, 1]⟩,
    ⟨some 63, .load false 1 (.tmp 62), none, [62], [3, 2, 1]⟩,
    ⟨some 64, .mv (.tmp 0), none, [0], []⟩,
    ⟨some 65, .nilc (.tmp 64), none, [64], [5]⟩,
    ⟨some 66, .foff 1 (.tmp 65), none, [65], [6, 5]⟩,
    ⟨some 67, .load false 1 (.tmp 66), none, [66], [7, 6, 5]⟩,
    ⟨some 68, .mv (.tmp 2), none, [2], []⟩,
    ⟨some 69, .build [(.int .i64 (0)), (.bool false), (.int .i64 (0)), (.slice none 0 0), (.int .i64 (0)), (.slice none 0 0)] [(0, 1, (.tmp 67)), (1, 1, (.tmp 68)), (2, 1, (.const (.int .i64 (1))))], none, [67, 68], [8, 9, 7, 6, 5]⟩,
    ⟨some 70, .bslice 118 6 1 [(.int .i64 (0)), (.bool false), (.int .i64 (0)), (.slice none 0 0), (.int .i64 (0)), (.slice none 0 0)] [(0, 6, (.tmp 69))], none, [69], [10, 8, 9, 7, 6, 5]⟩,
    ⟨some 71, .append 118 6 80 (.tmp 63) (.tmp 70), none, [63, 70], [4, 11, 3, 2, 1, 10, 8, 9, 7, 6, 5]⟩,
    ⟨some 72, .nilc (.tmp 59), none, [59], [0, 1, 2, 3, 4, 5, 6, 7, 8, 9, 10, 11, 12]⟩,
    ⟨some 73, .foff 0 (.tmp 72), none, [72], [13, 0, 1, 2, 3, 4, 5, 6, 7, 8, 9, 10, 11, 12]⟩,
    ⟨none, .store 1 (.tmp 73) (.tmp 71), none, [73, 71], [14, 12, 0, 1, 2, 3, 4, 5, 6, 7, 8, 9, 10, 11, 13]⟩] [0])
(.seq (.reg false [⟨some 74, .mv (.tmp 0), none, [0], []⟩,
    ⟨some 75, .nilc (.tmp 74), none, [74], []⟩,
    ⟨some 76, .foff 1 (.tmp 75), none, [75], []⟩,
    ⟨some 77, .load false 1 (.tmp 76), none, [76], []⟩,
    ⟨some 78, .bin .add (.tmp 77) (.const (.int .i64 (1))), none, [77], []⟩,
    ⟨some 79, .nilc (.tmp 74), none, [74], []⟩,
    ⟨some 80, .foff 1 (.tmp 79), none, [79], []⟩,
    ⟨none, .store 1 (.tmp 80) (.tmp 78), none, [80, 78], []⟩] [])
(.seq (.reg false [⟨some 6, .mv (.const .nilIface), none, [], []⟩] [6])
.ret))))))))
theorem ok_61 : FnOk Tryz.prog 61 81 ac_61 [.tmp 6] := ⟨Tryz.f61, Tryz.func61, by kernel_rfl, by kernel_rfl, by kernel_rfl, by kernel_rfl, by kernel_rfl⟩
def ac_62 : AC :=
(.seq (.reg false [⟨some 2, .mv (.const (.slice none 0 0)), none, [], []⟩] [0])
(.seq (.reg false [⟨some 3, .mv (.const (.slice none 0 0)), none, [], []⟩] [0, 3])
(.seq (.seq (.reg false [⟨some 4, .mv (.const (.int .i64 (0))), none, [], []⟩] [0, 3, 4])
(.block 0 (.loop (.seq (.seq (.reg false [⟨some 5, .mv (.tmp 4), none, [4], []⟩,
    ⟨some 6, .mv (.tmp 0), none, [0], []⟩,
    ⟨some 7, .len false (.tmp 6), none, [6], []⟩,
    ⟨some 8, .bin .lss (.tmp 5) (.tmp 7), none, [5, 7], []⟩] [0, 3, 4, 8])
(.cond (.tmp 8)
.skip
(.exit 0)))
(.seq (.block 1 (.reg false [⟨some 11, .mv (.tmp 3), none, [3], []⟩,
    ⟨some 12, .mv (.tmp 0), none, [0], []⟩,
    ⟨some 13, .mv (.tmp 4), none, [4], []⟩,
    ⟨some 14, .idx 2 (.tmp 12) (.tmp 13), none, [12, 13], []⟩,
    ⟨some 15, .load true 2 (.tmp 14), none, [14], []⟩,
    ⟨some 16, .bslice 134 2 1 [(.string (ByteArray.mk #[])), (.int .i64 (0))] [(0, 2, (.tmp 15))], none, [15], []⟩,
    ⟨some 17, .append 134 2 24 (.tmp 11) (.tmp 16), none, [11, 16], []⟩,
    ⟨some 3, .mv (.tmp 17), none, [17], []⟩] [0, 3, 4]))
(.reg false [⟨some 9, .mv (.tmp 4), none, [4], []⟩,
    ⟨some 10, .bin .add (.tmp 9) (.const (.int .i64 (1))), none, [9], []⟩,
    ⟨some 4, .mv (.tmp 10), none, [10], []⟩] [0, 3, 4]))))))
(.seq (.reg false [⟨some 18, .mv (.tmp 3), none, [3], []⟩,
    ⟨some 2, .mv (.tmp 18), none, [18], []⟩] [2])
.ret))))
theorem ok_62 : FnOk Tryz.prog 62 19 ac_62 [.tmp 2] := ⟨Tryz.f62, Tryz.func62, by kernel_rfl, by kernel_rfl, by kernel_rfl, by kernel_rfl, by kernel_rfl⟩
def ac_63 : AC :=
(.seq (.reg false [⟨some 1, .box 108 (.tmp 0), none, [0], []⟩,
    ⟨some 2, .new 115 [(.int .i64 (0)), (.slice none 0 0)], none, [], []⟩] [1, 2])
(.seq (.reg false [⟨some 5, .foff 0 (.tmp 1), none, [1], []⟩,
    ⟨some 6, .load false 1 (.tmp 5), none, [5], []⟩,
    ⟨some 7, .build [(.int .i64 (0)), (.slice none 0 0)] [(0, 1, (.tmp 6))], none, [6], []⟩,
    ⟨some 3, .new 115 [(.int .i64 (0)), (.slice none 0 0)], none, [], []⟩,
    ⟨none, .store 2 (.tmp 3) (.tmp 7), none, [3, 7], []⟩] [1, 2, 3])
(.seq (.seq (.reg false [⟨some 4, .mv (.const (.int .i64 (0))), none, [], []⟩] [1, 2, 3, 4])
(.block 0 (.loop (.seq (.seq (.reg false [⟨some 8, .mv (.tmp 4), none, [4], []⟩,
    ⟨some 9, .foff 1 (.tmp 1), none, [1], []⟩,
    ⟨some 10, .load false 1 (.tmp 9), none, [9], []⟩,
    ⟨some 11, .len false (.tmp 10), none, [10], []⟩,
    ⟨some 12, .bin .lss (.tmp 8) (.tmp 11), none, [8, 11], []⟩] [1, 2, 3, 4, 12])
(.cond (.tmp 12)
.skip
(.exit 0)))
(.seq (.block 1 (.reg true [⟨some 15, .foff 1 (.tmp 3), none, [3], []⟩,
    ⟨some 16, .load false 1 (.tmp 15), none, [15], [0]⟩,
    ⟨some 17, .foff 1 (.tmp 1), none, [1], []⟩,
    ⟨some 18, .load false 1 (.tmp 17), none, [17], [2]⟩,
    ⟨some 19, .mv (.tmp 4), none, [4], []⟩,
    ⟨some 20, .idx 2 (.tmp 18) (.tmp 19), none, [18, 19], [3, 4, 2]⟩,
    ⟨some 21, .foff 0 (.tmp 20), none, [20], [5, 3, 4, 2]⟩,
    ⟨some 22, .load false 1 (.tmp 21), none, [21], [6, 5, 3, 4, 2]⟩,
    ⟨some 23, .foff 1 (.tmp 1), none, [1], []⟩,
    ⟨some 24, .load false 1 (.tmp 23), none, [23], [8]⟩,
    ⟨some 25, .mv (.tmp 4), none, [4], []⟩,
    ⟨some 26, .idx 2 (.tmp 24) (.tmp 25), none, [24, 25], [9, 10, 8]⟩,
    ⟨some 27, .foff 1 (.tmp 26), none, [26], [11, 9, 10, 8]⟩,
    ⟨some 28, .load false 1 (.tmp 27), none, [27], [12, 11, 9, 10, 8]⟩,
    ⟨some 29, .call 42 [(.tmp 28)], none, [28], [13, 12, 11, 9, 10, 8]⟩,
    ⟨some 30, .build [(.int .i64 (0)), (.slice none 0 0)] [(0, 1, (.tmp 22)), (1, 1, (.tmp 29))], none, [22, 29], [7, 14, 6, 5, 3, 4, 2, 13, 12, 11, 9, 10, 8]⟩,
    ⟨some 31, .bslice 183 2 1 [(.int .i64 (0)), (.slice none 0 0)] [(0, 2, (.tmp 30))], none, [30], [15, 7, 14, 6, 5, 3, 4, 2, 13, 12, 11, 9, 10, 8]⟩,
    ⟨some 32, .append 183 2 32 (.tmp 16) (.tmp 31), none, [16, 31], [1, 16, 14, 0, 15, 7, 6, 5, 3, 4, 2, 13, 12, 11, 9, 10, 8]⟩,
    ⟨some 33, .foff 1 (.tmp 3), none, [3], [0, 1, 2, 3, 4, 5, 6, 7, 8, 9, 10, 11, 12, 13, 14, 15, 16, 17]⟩,
    ⟨none, .store 1 (.tmp 33) (.tmp 32), none, [33, 32], [18, 17, 0, 1, 2, 3, 4, 5, 6, 7, 8, 9, 10, 11, 12, 13, 14, 15, 16]⟩] [1, 2, 3, 4]))
(.reg false [⟨some 13, .mv (.tmp 4), none, [4], []⟩,
    ⟨some 14, .bin .add (.tmp 13) (.const (.int .i64 (1))), none, [13], []⟩,
    ⟨some 4, .mv (.tmp 14), none, [14], []⟩] [1, 2, 3, 4]))))))
(.seq (.reg false [⟨some 34, .load true 2 (.tmp 3), none, [3], []⟩,
    ⟨none, .store 2 (.tmp 2) (.tmp 34), none, [2, 34], []⟩] [2])
.ret))))
theorem ok_63 : FnOk Tryz.prog 63 35 ac_63 [.cell 2 true 2] := ⟨Tryz.f63, Tryz.func63, by kernel_rfl, by kernel_rfl, by kernel_rfl, by kernel_rfl, by kernel_rfl⟩
def ac_64 : AC :=
(.seq (.reg false [⟨some 4, .mv (.const .nilIface), none, [], []⟩] [0, 1])
(.seq (.reg false [⟨some 5, .mv (.tmp 0), none, [0], []⟩,
    ⟨some 6, .mv (.tmp 1), none, [1], []⟩,
    ⟨some 7, .idx 1 (.tmp 6) (.const (.int .i64 (0))), none, [6], []⟩,
    ⟨some 8, .load false 1 (.tmp 7), none, [7], []⟩,
    ⟨some 9, .call 61 [(.tmp 5), (.tmp 8), (.const (.bool true))], none, [5, 8], []⟩,
    ⟨some 4, .mv (.tmp 9), none, [9], []⟩] [4])
.ret))
theorem ok_64 : FnOk Tryz.prog 64 10 ac_64 [.tmp 4] := ⟨Tryz.f64, Tryz.func64, by kernel_rfl, by kernel_rfl, by kernel_rfl, by kernel_rfl, by kernel_rfl⟩
def ac_65 : AC :=
(.seq (.reg false [⟨some 4, .mv (.const .nilIface), none, [], []⟩] [0, 1])
(.seq (.reg false [⟨some 5, .mv (.tmp 0), none, [0], []⟩,
    ⟨some 6, .mv (.tmp 1), none, [1], []⟩,
    ⟨some 7, .idx 1 (.tmp 6) (.const (.int .i64 (0))), none, [6], []⟩,
    ⟨some 8, .load false 1 (.tmp 7), none, [7], []⟩,
    ⟨some 9, .call 66 [(.tmp 5), (.tmp 8), (.const (.bool false))], none, [5, 8], []⟩,
    ⟨some 4, .mv (.tmp 9), none, [9], []⟩] [4])
.ret))
theorem ok_65 : FnOk Tryz.prog 65 10 ac_65 [.tmp 4] := ⟨Tryz.f65, Tryz.func65, by kernel_rfl, by kernel_rfl, by kernel_rfl, by kernel_rfl, by kernel_rfl⟩
def ac_66 : AC :=
(.seq (.reg false [⟨some 6, .mv (.const .nilIface), none, [], []⟩] [0, 1, 2])
(.seq (.seq (.reg false [⟨some 11, .mv (.tmp 1), none, [1], []⟩,
    ⟨some 12, .len false (.tmp 11), none, [11], []⟩,
    ⟨some 13, .bin .eql (.tmp 12) (.const (.int .i64 (0))), none, [12], []⟩] [0, 1, 2, 13])
(.cond (.tmp 13)
(.seq (.seq (.reg false [⟨some 14, .mv (.tmp 2), none, [2], []⟩] [14])
(.cond (.tmp 14)
(.seq (.reg false [⟨some 15, .call 77 [(.const (.int .i64 (108))), (.const (.string (ByteArray.mk #[47])))], none, [], []⟩,
    ⟨some 6, .mv (.tmp 15), none, [15], []⟩] [6])
.ret)
.skip))
(.seq (.reg false [⟨some 16, .call 77 [(.const (.int .i64 (104))), (.const (.string (ByteArray.mk #[47])))], none, [], []⟩,
    ⟨some 6, .mv (.tmp 16), none, [16], []⟩] [6])
.ret))
.skip))
(.seq (.reg false [⟨some 18, .mv (.tmp 0), none, [0], []⟩,
    ⟨some 19, .mv (.tmp 1), none, [1], []⟩,
    ⟨some 20, .call 115 [(.tmp 18), (.tmp 19)], none, [18, 19], []⟩,
    ⟨some 17, .mv (.tmp 20), none, [20], []⟩,
    ⟨some 21, .ext 0 (.tmp 17), none, [17], []⟩,
    ⟨some 22, .ext 1 (.tmp 17), none, [17], []⟩,
    ⟨some 7, .mv (.tmp 21), none, [21], []⟩,
    ⟨some 8, .mv (.tmp 22), none, [22], []⟩] [0, 1, 2, 7, 8])
(.seq (.seq (.reg false [⟨some 23, .mv (.tmp 8), none, [8], []⟩,
    ⟨some 24, .isnil true .nilIface (.tmp 23), none, [23], []⟩] [0, 1, 2, 7, 8, 24])
(.cond (.tmp 24)
(.seq (.reg false [⟨some 25, .mv (.tmp 8), none, [8], []⟩,
    ⟨some 6, .mv (.tmp 25), none, [25], []⟩] [6])
.ret)
.skip))
(.seq (.seq (.reg false [⟨some 26, .mv (.tmp 0), none, [0], []⟩,
    ⟨some 27, .mv (.tmp 7), none, [7], []⟩,
    ⟨some 28, .call 116 [(.tmp 26), (.tmp 27)], none, [26, 27], []⟩,
    ⟨some 9, .mv (.tmp 28), none, [28], []⟩] [0, 1, 2, 9])
(.block 0 (.seq (.reg false [⟨some 30, .mv (.tmp 2), none, [2], []⟩,
    ⟨some 31, .mv (.tmp 30), none, [30], []⟩,
    ⟨some 32, .mv (.tmp 9), some (31, true), [9, 31], []⟩,
    ⟨some 33, .nilc (.tmp 32), some (31, true), [32, 31], []⟩,
    ⟨some 34, .foff 1 (.tmp 33), some (31, true), [33, 31], []⟩,
    ⟨some 35, .load false 1 (.tmp 34), some (31, true), [34, 31], []⟩,
    ⟨some 36, .un .not (.tmp 35), some (31, true), [35, 31], []⟩,
    ⟨some 37, .pick (.tmp 31) (.tmp 36) (.const (.bool false)), none, [31, 36], []⟩,
    ⟨some 29, .mv (.tmp 37), none, [37], []⟩] [0, 1, 2, 9, 29])
(.cond (.tmp 29)
(.seq (.reg false [⟨some 38, .mv (.tmp 1), none, [1], []⟩,
    ⟨some 39, .mv (.tmp 1), none, [1], []⟩,
    ⟨some 40, .len false (.tmp 39), none, [39], []⟩,
    ⟨some 41, .bin .sub (.tmp 40) (.const (.int .i64 (1))), none, [40], []⟩,
    ⟨some 42, .idx 1 (.tmp 38) (.tmp 41), none, [38, 41], []⟩,
    ⟨some 43, .load false 1 (.tmp 42), none, [42], []⟩,
    ⟨some 44, .call 77 [(.const (.int .i64 (103))), (.tmp 43)], none, [43], []⟩,
    ⟨some 6, .mv (.tmp 44), none, [44], []⟩] [6])
.ret)
(.seq (.reg false [⟨some 46, .mv (.tmp 2), none, [2], []⟩,
    ⟨some 47, .un .not (.tmp 46), none, [46], []⟩,
    ⟨some 48, .mv (.tmp 47), none, [47], []⟩,
    ⟨some 49, .mv (.tmp 9), some (48, true), [9, 48], []⟩,
    ⟨some 50, .nilc (.tmp 49), some (48, true), [49, 48], []⟩,
    ⟨some 51, .foff 1 (.tmp 50), some (48, true), [50, 48], []⟩,
    ⟨some 52, .load false 1 (.tmp 51), some (48, true), [51, 48], []⟩,
    ⟨some 53, .pick (.tmp 48) (.tmp 52) (.const (.bool false)), none, [48, 52], []⟩,
    ⟨some 45, .mv (.tmp 53), none, [53], []⟩] [0, 1, 9, 45])
(.cond (.tmp 45)
(.seq (.reg false [⟨some 54, .mv (.tmp 1), none, [1], []⟩,
    ⟨some 55, .mv (.tmp 1), none, [1], []⟩,
    ⟨some 56, .len false (.tmp 55), none, [55], []⟩,
    ⟨some 57, .bin .sub (.tmp 56) (.const (.int .i64 (1))), none, [56], []⟩,
    ⟨some 58, .idx 1 (.tmp 54) (.tmp 57), none, [54, 57], []⟩,
    ⟨some 59, .load false 1 (.tmp 58), none, [58], []⟩,
    ⟨some 60, .call 77 [(.const (.int .i64 (104))), (.tmp 59)], none, [59], []⟩,
    ⟨some 6, .mv (.tmp 60), none, [60], []⟩] [6])
.ret)
(.seq (.reg false [⟨some 62, .mv (.tmp 9), none, [9], []⟩,
    ⟨some 63, .nilc (.tmp 62), none, [62], []⟩,
    ⟨some 64, .foff 3 (.tmp 63), none, [63], []⟩,
    ⟨some 65, .load false 1 (.tmp 64), none, [64], []⟩,
    ⟨some 66, .len false (.tmp 65), none, [65], []⟩,
    ⟨some 67, .bin .gtr (.tmp 66) (.const (.int .i64 (0))), none, [66], []⟩,
    ⟨some 61, .mv (.tmp 67), none, [67], []⟩] [0, 1, 61])
(.cond (.tmp 61)
(.seq (.reg false [⟨some 68, .mv (.tmp 1), none, [1], []⟩,
    ⟨some 69, .mv (.tmp 1), none, [1], []⟩,
    ⟨some 70, .len false (.tmp 69), none, [69], []⟩,
    ⟨some 71, .bin .sub (.tmp 70) (.const (.int .i64 (1))), none, [70], []⟩,
    ⟨some 72, .idx 1 (.tmp 68) (.tmp 71), none, [68, 71], []⟩,
    ⟨some 73, .load false 1 (.tmp 72), none, [72], []⟩,
    ⟨some 74, .call 77 [(.const (.int .i64 (105))), (.tmp 73)], none, [73], []⟩,
    ⟨some 6, .mv (.tmp 74), none, [74], []⟩] [6])
.ret)
.skip))))))))
(.seq (.reg false [⟨some 76, .mv (.tmp 0), none, [0], []⟩,
    ⟨some 77, .mv (.tmp 1), none, [1], []⟩,
    ⟨some 78, .call 112 [(.tmp 76), (.tmp 77)], none, [76, 77], []⟩,
    ⟨some 75, .mv (.tmp 78), none, [78], []⟩,
    ⟨some 79, .ext 0 (.tmp 75), none, [75], []⟩,
    ⟨some 80, .ext 1 (.tmp 75), none, [75], []⟩,
    ⟨some 10, .new 175 [(.int .i64 (0)), (.string (ByteArray.mk #[])), (.int .i64 (0))], none, [], []⟩,
    ⟨none, .store 3 (.tmp 10) (.tmp 79), none, [10, 79], []⟩,
    ⟨some 8, .mv (.tmp 80), none, [80], []⟩] [0, 8, 10])
(.seq (.seq (.reg false [⟨some 81, .mv (.tmp 8), none, [8], []⟩,
    ⟨some 82, .isnil false .nilIface (.tmp 81), none, [81], []⟩] [0, 8, 10, 82])
(.cond (.tmp 82)
(.reg false [⟨some 83, .mv (.tmp 0), none, [0], []⟩,
    ⟨some 84, .load true 3 (.tmp 10), none, [10], []⟩,
    ⟨some 85, .call 117 [(.tmp 83), (.tmp 84)], none, [83, 84], []⟩] [8])
.skip))
(.seq (.reg false [⟨some 86, .mv (.tmp 8), none, [8], []⟩,
    ⟨some 6, .mv (.tmp 86), none, [86], []⟩] [6])
.ret))))))))
theorem ok_66 : FnOk Tryz.prog 66 87 ac_66 [.tmp 6] := ⟨Tryz.f66, Tryz.func66, by kernel_rfl, by kernel_rfl, by kernel_rfl, by kernel_rfl, by kernel_rfl⟩
def ac_67 : AC :=
(.seq (.reg false [⟨some 4, .mv (.const .nilIface), none, [], []⟩] [0, 1])
(.seq (.reg false [⟨some 5, .mv (.tmp 0), none, [0], []⟩,
    ⟨some 6, .mv (.tmp 1), none, [1], []⟩,
    ⟨some 7, .idx 1 (.tmp 6) (.const (.int .i64 (0))), none, [6], []⟩,
    ⟨some 8, .load false 1 (.tmp 7), none, [7], []⟩,
    ⟨some 9, .call 66 [(.tmp 5), (.tmp 8), (.const (.bool true))], none, [5, 8], []⟩,
    ⟨some 4, .mv (.tmp 9), none, [9], []⟩] [4])
.ret))
theorem ok_67 : FnOk Tryz.prog 67 10 ac_67 [.tmp 4] := ⟨Tryz.f67, Tryz.func67, by kernel_rfl, by kernel_rfl, by kernel_rfl, by kernel_rfl, by kernel_rfl⟩
def ac_74 : AC :=
(.seq (.reg false [⟨some 7, .mv (.const .nilIface), none, [], []⟩] [0, 1, 2, 3, 4])
(.seq (.reg false [⟨some 13, .mv (.tmp 0), none, [0], []⟩,
    ⟨some 14, .mv (.tmp 1), none, [1], []⟩,
    ⟨some 15, .idx 1 (.tmp 14) (.const (.int .i64 (0))), none, [14], []⟩,
    ⟨some 16, .load false 1 (.tmp 15), none, [15], []⟩,
    ⟨some 17, .call 75 [(.tmp 13), (.tmp 16)], none, [13, 16], []⟩,
    ⟨some 12, .mv (.tmp 17), none, [17], []⟩,
    ⟨some 18, .ext 0 (.tmp 12), none, [12], []⟩,
    ⟨some 19, .ext 1 (.tmp 12), none, [12], []⟩,
    ⟨some 8, .mv (.tmp 18), none, [18], []⟩,
    ⟨some 9, .mv (.tmp 19), none, [19], []⟩] [2, 3, 4, 8, 9])
(.seq (.seq (.reg false [⟨some 20, .mv (.tmp 9), none, [9], []⟩,
    ⟨some 21, .isnil true .nilIface (.tmp 20), none, [20], []⟩] [2, 3, 4, 8, 9, 21])
(.cond (.tmp 21)
(.seq (.reg false [⟨some 22, .mv (.tmp 9), none, [9], []⟩,
    ⟨some 7, .mv (.tmp 22), none, [22], []⟩] [7])
.ret)
.skip))
(.seq (.reg true [⟨some 24, .mv (.tmp 8), none, [8], []⟩,
    ⟨some 25, .nilc (.tmp 24), none, [24], [0]⟩,
    ⟨some 26, .foff 4 (.tmp 25), none, [25], [1, 0]⟩,
    ⟨some 27, .load true 2 (.tmp 26), none, [26], [2, 1, 0]⟩,
    ⟨some 28, .load false 1 (.tmp 2), none, [2], []⟩,
    ⟨some 29, .load false 1 (.tmp 3), none, [3], []⟩,
    ⟨some 30, .call 76 [(.tmp 27), (.tmp 28), (.tmp 29)], none, [27, 28, 29], [3, 4, 5, 2, 1, 0]⟩,
    ⟨some 23, .mv (.tmp 30), none, [30], [6, 3, 4, 5, 2, 1, 0]⟩,
    ⟨some 31, .ext 0 (.tmp 23), none, [23], [7, 6, 3, 4, 5, 2, 1, 0]⟩,
    ⟨some 32, .ext 1 (.tmp 23), none, [23], [7, 6, 3, 4, 5, 2, 1, 0]⟩,
    ⟨some 10, .new 115 [(.int .i64 (0)), (.slice none 0 0)], none, [], []⟩,
    ⟨none, .store 2 (.tmp 10) (.tmp 31), none, [10, 31], [10, 8, 6, 0, 1, 2, 3, 4, 5, 7]⟩,
    ⟨some 11, .mv (.tmp 32), none, [32], [9, 11, 0, 1, 2, 3, 4, 5, 6, 7, 8, 10]⟩] [4, 8, 10, 11])
(.seq (.reg false [⟨some 33, .mv (.tmp 8), none, [8], []⟩,
    ⟨some 34, .load true 2 (.tmp 10), none, [10], []⟩,
    ⟨some 35, .nilc (.tmp 33), none, [33], []⟩,
    ⟨some 36, .foff 4 (.tmp 35), none, [35], []⟩,
    ⟨none, .store 2 (.tmp 36) (.tmp 34), none, [36, 34], []⟩] [4, 11])
(.seq (.reg false [⟨some 37, .mv (.tmp 11), none, [11], []⟩,
    ⟨some 38, .load false 1 (.tmp 4), none, [4], []⟩,
    ⟨some 39, .call 77 [(.tmp 37), (.tmp 38)], none, [37, 38], []⟩,
    ⟨some 7, .mv (.tmp 39), none, [39], []⟩] [7])
.ret))))))
theorem ok_74 : FnOk Tryz.prog 74 40 ac_74 [.tmp 7] := ⟨Tryz.f74, Tryz.func74, by kernel_rfl, by kernel_rfl, by kernel_rfl, by kernel_rfl, by kernel_rfl⟩
def ac_75 : AC :=
(.seq (.reg false [⟨some 4, .mv (.const (.pointer none)), none, [], []⟩,
    ⟨some 5, .mv (.const .nilIface), none, [], []⟩] [0, 1])
(.seq (.reg false [⟨some 10, .mv (.tmp 0), none, [0], []⟩,
    ⟨some 11, .mv (.tmp 1), none, [1], []⟩,
    ⟨some 12, .call 115 [(.tmp 10), (.tmp 11)], none, [10, 11], []⟩,
    ⟨some 9, .mv (.tmp 12), none, [12], []⟩,
    ⟨some 13, .ext 0 (.tmp 9), none, [9], []⟩,
    ⟨some 14, .ext 1 (.tmp 9), none, [9], []⟩,
    ⟨some 6, .mv (.tmp 13), none, [13], []⟩,
    ⟨some 7, .mv (.tmp 14), none, [14], []⟩] [0, 6, 7])
(.seq (.seq (.reg false [⟨some 15, .mv (.tmp 7), none, [7], []⟩,
    ⟨some 16, .isnil true .nilIface (.tmp 15), none, [15], []⟩] [0, 6, 7, 16])
(.cond (.tmp 16)
(.seq (.reg false [⟨some 17, .mv (.tmp 7), none, [7], []⟩,
    ⟨some 4, .mv (.const (.pointer none)), none, [], []⟩,
    ⟨some 5, .mv (.tmp 17), none, [17], []⟩] [4, 5])
.ret)
.skip))
(.seq (.reg false [⟨some 18, .mv (.tmp 0), none, [0], []⟩,
    ⟨some 19, .mv (.tmp 6), none, [6], []⟩,
    ⟨some 20, .call 116 [(.tmp 18), (.tmp 19)], none, [18, 19], []⟩,
    ⟨some 8, .mv (.tmp 20), none, [20], []⟩] [8])
(.seq (.seq (.reg false [⟨some 21, .mv (.tmp 8), none, [8], []⟩,
    ⟨some 22, .nilc (.tmp 21), none, [21], []⟩,
    ⟨some 23, .foff 1 (.tmp 22), none, [22], []⟩,
    ⟨some 24, .load false 1 (.tmp 23), none, [23], []⟩] [8, 24])
(.cond (.tmp 24)
(.seq (.reg false [⟨some 25, .call 77 [(.const (.int .i64 (104))), (.const (.string (ByteArray.mk #[47])))], none, [], []⟩,
    ⟨some 4, .mv (.const (.pointer none)), none, [], []⟩,
    ⟨some 5, .mv (.tmp 25), none, [25], []⟩] [4, 5])
.ret)
.skip))
(.seq (.reg false [⟨some 26, .mv (.tmp 8), none, [8], []⟩,
    ⟨some 4, .mv (.tmp 26), none, [26], []⟩,
    ⟨some 5, .mv (.const .nilIface), none, [], []⟩] [4, 5])
.ret))))))
theorem ok_75 : FnOk Tryz.prog 75 27 ac_75 [.tmp 4, .tmp 5] := ⟨Tryz.f75, Tryz.func75, by kernel_rfl, by kernel_rfl, by kernel_rfl, by kernel_rfl, by kernel_rfl⟩
def ac_76 : AC :=
(.seq (.reg false [⟨some 3, .box 115 (.tmp 0), none, [0], []⟩,
    ⟨some 6, .new 115 [(.int .i64 (0)), (.slice none 0 0)], none, [], []⟩,
    ⟨some 7, .mv (.const (.int .i64 (0))), none, [], []⟩] [1, 2, 3, 6])
(.seq (.seq (.reg false [⟨some 13, .load true 2 (.tmp 3), none, [3], []⟩,
    ⟨some 14, .call 118 [(.tmp 13)], none, [13], []⟩,
    ⟨some 8, .mv (.tmp 14), none, [14], []⟩] [1, 2, 3, 6, 8])
(.seq (.reg false [⟨some 15, .mv (.tmp 8), none, [8], []⟩,
    ⟨some 16, .bin .neq (.tmp 15) (.const (.int .i64 (0))), none, [15], []⟩] [1, 2, 3, 6, 8, 16])
(.cond (.tmp 16)
(.seq (.reg false [⟨some 17, .build [(.int .i64 (0)), (.slice none 0 0)] [], none, [], []⟩,
    ⟨some 18, .mv (.tmp 8), none, [8], []⟩,
    ⟨none, .store 2 (.tmp 6) (.tmp 17), none, [6, 17], []⟩,
    ⟨some 7, .mv (.tmp 18), none, [18], []⟩] [6, 7])
.ret)
.skip)))
(.seq (.reg false [⟨some 19, .load true 2 (.tmp 3), none, [3], []⟩,
    ⟨some 20, .call 119 [(.tmp 19)], none, [19], []⟩,
    ⟨some 9, .mv (.tmp 20), none, [20], []⟩] [1, 2, 6, 9])
(.seq (.seq (.reg false [⟨some 21, .mv (.tmp 1), none, [1], []⟩,
    ⟨some 22, .bin .lss (.tmp 21) (.const (.int .i64 (0))), none, [21], []⟩] [1, 2, 6, 9, 22])
(.cond (.tmp 22)
(.seq (.reg false [⟨some 23, .build [(.int .i64 (0)), (.slice none 0 0)] [], none, [], []⟩,
    ⟨none, .store 2 (.tmp 6) (.tmp 23), none, [6, 23], []⟩,
    ⟨some 7, .mv (.const (.int .i64 (4))), none, [], []⟩] [6, 7])
.ret)
.skip))
(.seq (.seq (.reg false [⟨some 24, .mv (.tmp 2), none, [2], []⟩,
    ⟨some 25, .len false (.tmp 24), none, [24], []⟩,
    ⟨some 26, .bin .eql (.tmp 25) (.const (.int .i64 (0))), none, [25], []⟩] [1, 2, 6, 9, 26])
(.cond (.tmp 26)
(.seq (.reg false [⟨some 27, .mv (.tmp 9), none, [9], []⟩,
    ⟨some 28, .call 120 [(.tmp 27)], none, [27], []⟩,
    ⟨none, .store 2 (.tmp 6) (.tmp 28), none, [6, 28], []⟩,
    ⟨some 7, .mv (.const (.int .i64 (0))), none, [], []⟩] [6, 7])
.ret)
.skip))
(.seq (.seq (.reg false [⟨some 30, .mv (.tmp 1), none, [1], []⟩,
    ⟨some 31, .mv (.tmp 2), none, [2], []⟩,
    ⟨some 32, .len false (.tmp 31), none, [31], []⟩,
    ⟨some 33, .call 121 [(.tmp 30), (.tmp 32)], none, [30, 32], []⟩,
    ⟨some 29, .mv (.tmp 33), none, [33], []⟩,
    ⟨some 34, .ext 0 (.tmp 29), none, [29], []⟩,
    ⟨some 35, .ext 1 (.tmp 29), none, [29], []⟩,
    ⟨some 36, .ext 2 (.tmp 29), none, [29], []⟩,
    ⟨some 10, .mv (.tmp 34), none, [34], []⟩,
    ⟨some 11, .mv (.tmp 35), none, [35], []⟩,
    ⟨some 12, .mv (.tmp 36), none, [36], []⟩] [1, 2, 6, 9, 12])
(.seq (.reg false [⟨some 37, .mv (.tmp 12), none, [12], []⟩,
    ⟨some 38, .bin .neq (.tmp 37) (.const (.int .i64 (0))), none, [37], []⟩] [1, 2, 6, 9, 12, 38])
(.cond (.tmp 38)
(.seq (.reg false [⟨some 39, .build [(.int .i64 (0)), (.slice none 0 0)] [], none, [], []⟩,
    ⟨some 40, .mv (.tmp 12), none, [12], []⟩,
    ⟨none, .store 2 (.tmp 6) (.tmp 39), none, [6, 39], []⟩,
    ⟨some 7, .mv (.tmp 40), none, [40], []⟩] [6, 7])
.ret)
.skip)))
(.seq (.reg false [⟨some 41, .mv (.tmp 9), none, [9], []⟩,
    ⟨some 42, .mv (.tmp 1), none, [1], []⟩,
    ⟨some 43, .mv (.tmp 2), none, [2], []⟩,
    ⟨some 44, .call 122 [(.tmp 41), (.tmp 42), (.tmp 43)], none, [41, 42, 43], []⟩] [6, 9])
(.seq (.reg false [⟨some 45, .mv (.tmp 9), none, [9], []⟩,
    ⟨some 46, .call 120 [(.tmp 45)], none, [45], []⟩,
    ⟨none, .store 2 (.tmp 6) (.tmp 46), none, [6, 46], []⟩,
    ⟨some 7, .mv (.const (.int .i64 (0))), none, [], []⟩] [6, 7])
.ret))))))))
theorem ok_76 : FnOk Tryz.prog 76 47 ac_76 [.cell 6 true 2, .tmp 7] := ⟨Tryz.f76, Tryz.func76, by kernel_rfl, by kernel_rfl, by kernel_rfl, by kernel_rfl, by kernel_rfl⟩
def ac_77 : AC :=
(.seq (.reg false [⟨some 4, .mv (.const .nilIface), none, [], []⟩] [0, 1])
(.seq (.seq (.reg false [⟨some 5, .mv (.tmp 0), none, [0], []⟩,
    ⟨some 6, .bin .eql (.tmp 5) (.const (.int .i64 (0))), none, [5], []⟩] [0, 1, 6])
(.cond (.tmp 6)
(.seq (.reg false [⟨some 4, .mv (.const .nilIface), none, [], []⟩] [4])
.ret)
.skip))
(.seq (.reg false [⟨some 7, .mv (.tmp 0), none, [0], []⟩,
    ⟨some 8, .mv (.tmp 1), none, [1], []⟩,
    ⟨some 9, .build [(.int .i64 (0)), (.string (ByteArray.mk #[]))] [(0, 1, (.tmp 7)), (1, 1, (.tmp 8))], none, [7, 8], []⟩,
    ⟨some 10, .box 197 (.tmp 9), none, [9], []⟩,
    ⟨some 11, .mkif 195 (.tmp 10), none, [10], []⟩,
    ⟨some 4, .mv (.tmp 11), none, [11], []⟩] [4])
.ret)))
theorem ok_77 : FnOk Tryz.prog 77 12 ac_77 [.tmp 4] := ⟨Tryz.f77, Tryz.func77, by kernel_rfl, by kernel_rfl, by kernel_rfl, by kernel_rfl, by kernel_rfl⟩
def ac_80 : AC :=
(.seq (.reg false [⟨some 3, .box 115 (.tmp 0), none, [0], []⟩,
    ⟨some 6, .mv (.const (.slice none 0 0)), none, [], []⟩,
    ⟨some 7, .mv (.const (.int .i64 (0))), none, [], []⟩] [1, 2, 3])
(.seq (.seq (.reg false [⟨some 13, .load true 2 (.tmp 3), none, [3], []⟩,
    ⟨some 14, .call 118 [(.tmp 13)], none, [13], []⟩,
    ⟨some 8, .mv (.tmp 14), none, [14], []⟩] [1, 2, 3, 8])
(.seq (.reg false [⟨some 15, .mv (.tmp 8), none, [8], []⟩,
    ⟨some 16, .bin .neq (.tmp 15) (.const (.int .i64 (0))), none, [15], []⟩] [1, 2, 3, 8, 16])
(.cond (.tmp 16)
(.seq (.reg false [⟨some 17, .mv (.tmp 8), none, [8], []⟩,
    ⟨some 6, .mv (.const (.slice none 0 0)), none, [], []⟩,
    ⟨some 7, .mv (.tmp 17), none, [17], []⟩] [6, 7])
.ret)
.skip)))
(.seq (.seq (.reg false [⟨some 18, .mv (.tmp 1), none, [1], []⟩,
    ⟨some 19, .mv (.tmp 2), none, [2], []⟩,
    ⟨some 20, .mm false (.tmp 18) (.tmp 19), none, [18, 19], []⟩,
    ⟨some 21, .bin .lss (.tmp 20) (.const (.int .i64 (0))), none, [20], []⟩] [1, 2, 3, 21])
(.cond (.tmp 21)
(.seq (.reg false [⟨some 6, .mv (.const (.slice none 0 0)), none, [], []⟩,
    ⟨some 7, .mv (.const (.int .i64 (4))), none, [], []⟩] [6, 7])
.ret)
.skip))
(.seq (.seq (.reg false [⟨some 22, .mv (.tmp 1), none, [1], []⟩,
    ⟨some 23, .foff 0 (.tmp 3), none, [3], []⟩,
    ⟨some 24, .load false 1 (.tmp 23), none, [23], []⟩,
    ⟨some 25, .bin .geq (.tmp 22) (.tmp 24), none, [22, 24], []⟩] [1, 2, 3, 25])
(.cond (.tmp 25)
(.seq (.reg false [⟨some 6, .mv (.const (.slice none 0 0)), none, [], []⟩,
    ⟨some 7, .mv (.const (.int .i64 (0))), none, [], []⟩] [6, 7])
.ret)
.skip))
(.seq (.reg false [⟨some 26, .mv (.tmp 2), none, [2], []⟩,
    ⟨some 27, .foff 0 (.tmp 3), none, [3], []⟩,
    ⟨some 28, .load false 1 (.tmp 27), none, [27], []⟩,
    ⟨some 29, .mv (.tmp 1), none, [1], []⟩,
    ⟨some 30, .bin .sub (.tmp 28) (.tmp 29), none, [28, 29], []⟩,
    ⟨some 31, .mm false (.tmp 26) (.tmp 30), none, [26, 30], []⟩,
    ⟨some 2, .mv (.tmp 31), none, [31], []⟩] [1, 2, 3])
(.seq (.reg false [⟨some 32, .mv (.tmp 2), none, [2], []⟩,
    ⟨some 33, .mksl 5 1 1 [(.int .u8 (0))] (.tmp 32) (.tmp 32), none, [32, 32], []⟩,
    ⟨some 9, .mv (.tmp 33), none, [33], []⟩] [1, 2, 3, 9])
(.seq (.seq (.reg false [⟨some 34, .foff 1 (.tmp 3), none, [3], []⟩,
    ⟨some 35, .load false 1 (.tmp 34), none, [34], []⟩,
    ⟨some 36, .len false (.tmp 35), none, [35], []⟩,
    ⟨some 37, .mv (.const (.int .i64 (0))), none, [], []⟩] [1, 2, 9, 35, 36, 37])
(.block 0 (.loop (.seq (.reg false [⟨some 38, .bin .lss (.tmp 37) (.tmp 36), none, [37, 36], []⟩] [1, 2, 9, 35, 36, 37, 38])
(.seq (.cond (.tmp 38)
.skip
(.exit 0))
(.seq (.block 1 (.seq (.reg false [⟨some 39, .idx 2 (.tmp 35) (.tmp 37), none, [35, 37], []⟩,
    ⟨some 40, .load true 2 (.tmp 39), none, [39], []⟩,
    ⟨some 11, .new 183 [(.int .i64 (0)), (.slice none 0 0)], none, [], []⟩,
    ⟨none, .store 2 (.tmp 11) (.tmp 40), none, [11, 40], []⟩] [1, 2, 9, 11, 35, 36, 37])
(.seq (.reg false [⟨some 41, .foff 0 (.tmp 11), none, [11], []⟩,
    ⟨some 42, .load false 1 (.tmp 41), none, [41], []⟩,
    ⟨some 43, .bin .mul (.const (.int .i64 (32))) (.tmp 42), none, [42], []⟩,
    ⟨some 44, .mv (.tmp 1), none, [1], []⟩,
    ⟨some 45, .bin .sub (.tmp 43) (.tmp 44), none, [43, 44], []⟩,
    ⟨some 12, .mv (.tmp 45), none, [45], []⟩] [1, 2, 9, 11, 12, 35, 36, 37])
(.seq (.seq (.reg false [⟨some 46, .mv (.tmp 12), none, [12], []⟩,
    ⟨some 47, .bin .add (.tmp 46) (.const (.int .i64 (32))), none, [46], []⟩,
    ⟨some 48, .bin .leq (.tmp 47) (.const (.int .i64 (0))), none, [47], []⟩,
    ⟨some 49, .mv (.tmp 48), none, [48], []⟩,
    ⟨some 50, .mv (.tmp 12), some (49, false), [12, 49], []⟩,
    ⟨some 51, .mv (.tmp 2), some (49, false), [2, 49], []⟩,
    ⟨some 52, .bin .geq (.tmp 50) (.tmp 51), some (49, false), [50, 51, 49], []⟩,
    ⟨some 53, .pick (.tmp 49) (.const (.bool true)) (.tmp 52), none, [49, 52], []⟩] [1, 2, 9, 11, 12, 35, 36, 37, 53])
(.cond (.tmp 53)
(.exit 1)
.skip))
(.reg true [⟨some 54, .mv (.tmp 9), none, [9], []⟩,
    ⟨some 55, .mv (.tmp 12), none, [12], []⟩,
    ⟨some 56, .mm true (.tmp 55) (.const (.int .i64 (0))), none, [55], [1]⟩,
    ⟨some 57, .slice 1 (.tmp 54) (some (.tmp 56)) none, none, [54, 56], [0, 2, 1]⟩,
    ⟨some 58, .foff 1 (.tmp 11), none, [11], []⟩,
    ⟨some 59, .load false 1 (.tmp 58), none, [58], [4]⟩,
    ⟨some 60, .mv (.tmp 12), none, [12], []⟩,
    ⟨some 61, .un .neg (.tmp 60), none, [60], [6]⟩,
    ⟨some 62, .mm true (.tmp 61) (.const (.int .i64 (0))), none, [61], [7, 6]⟩,
    ⟨some 63, .slice 1 (.tmp 59) (some (.tmp 62)) none, none, [59, 62], [5, 8, 4, 7, 6]⟩,
    ⟨some 64, .copy (.tmp 57) (.tmp 63), none, [57, 63], [3, 9, 0, 2, 1, 5, 8, 4, 7, 6]⟩] [1, 2, 9, 35, 36, 37])))))
(.reg false [⟨some 65, .bin .add (.tmp 37) (.const (.int .i64 (1))), none, [37], []⟩,
    ⟨some 37, .mv (.tmp 65), none, [65], []⟩] [1, 2, 9, 35, 36, 37])))))))
(.seq (.reg false [⟨some 66, .mv (.tmp 9), none, [9], []⟩,
    ⟨some 6, .mv (.tmp 66), none, [66], []⟩,
    ⟨some 7, .mv (.const (.int .i64 (0))), none, [], []⟩] [6, 7])
.ret))))))))
theorem ok_80 : FnOk Tryz.prog 80 67 ac_80 [.tmp 6, .tmp 7] := ⟨Tryz.f80, Tryz.func80, by kernel_rfl, by kernel_rfl, by kernel_rfl, by kernel_rfl, by kernel_rfl⟩
def ac_83 : AC :=
(.seq (.reg false [⟨some 6, .mv (.const (.int .i64 (0))), none, [], []⟩,
    ⟨some 7, .mv (.const (.bool false)), none, [], []⟩] [0, 1, 2])
(.seq (.reg false [⟨some 12, .mv (.tmp 0), none, [0], []⟩,
    ⟨some 13, .len false (.tmp 12), none, [12], []⟩,
    ⟨some 8, .mv (.tmp 13), none, [13], []⟩] [0, 1, 2, 8])
(.seq (.reg false [⟨some 14, .mv (.tmp 8), none, [8], []⟩,
    ⟨some 9, .mv (.const (.int .i64 (0))), none, [], []⟩,
    ⟨some 10, .mv (.tmp 14), none, [14], []⟩] [0, 1, 2, 8, 9, 10])
(.seq (.block 0 (.loop (.seq (.seq (.reg false [⟨some 15, .mv (.tmp 9), none, [9], []⟩,
    ⟨some 16, .mv (.tmp 10), none, [10], []⟩,
    ⟨some 17, .bin .lss (.tmp 15) (.tmp 16), none, [15, 16], []⟩] [0, 1, 2, 8, 9, 10, 17])
(.cond (.tmp 17)
.skip
(.exit 0)))
(.block 1 (.seq (.reg false [⟨some 18, .mv (.tmp 9), none, [9], []⟩,
    ⟨some 19, .mv (.tmp 10), none, [10], []⟩,
    ⟨some 20, .bin .add (.tmp 18) (.tmp 19), none, [18, 19], []⟩,
    ⟨some 21, .conv .u64 (.tmp 20), none, [20], []⟩,
    ⟨some 22, .bin .shr (.tmp 21) (.const (.int .u64 (1))), none, [21], []⟩,
    ⟨some 23, .conv .i64 (.tmp 22), none, [22], []⟩,
    ⟨some 11, .mv (.tmp 23), none, [23], []⟩] [0, 1, 2, 8, 9, 10, 11])
(.seq (.reg false [⟨some 24, .mv (.tmp 2), none, [2], []⟩,
    ⟨some 25, .mv (.tmp 0), none, [0], []⟩,
    ⟨some 26, .mv (.tmp 11), none, [11], []⟩,
    ⟨some 27, .idx 6 (.tmp 25) (.tmp 26), none, [25, 26], []⟩,
    ⟨some 28, .load true 6 (.tmp 27), none, [27], []⟩,
    ⟨some 29, .mv (.tmp 1), none, [1], []⟩,
    ⟨some 30, .callv (.tmp 24) [(.tmp 28), (.tmp 29)], none, [24, 28, 29], []⟩,
    ⟨some 31, .bin .lss (.tmp 30) (.const (.int .i64 (0))), none, [30], []⟩] [0, 1, 2, 8, 9, 10, 11, 31])
(.cond (.tmp 31)
(.reg false [⟨some 32, .mv (.tmp 11), none, [11], []⟩,
    ⟨some 33, .bin .add (.tmp 32) (.const (.int .i64 (1))), none, [32], []⟩,
    ⟨some 9, .mv (.tmp 33), none, [33], []⟩] [0, 1, 2, 8, 9, 10])
(.reg false [⟨some 34, .mv (.tmp 11), none, [11], []⟩,
    ⟨some 10, .mv (.tmp 34), none, [34], []⟩] [0, 1, 2, 8, 9, 10]))))))))
(.seq (.reg false [⟨some 35, .mv (.tmp 9), none, [9], []⟩,
    ⟨some 36, .mv (.tmp 9), none, [9], []⟩,
    ⟨some 37, .mv (.tmp 8), none, [8], []⟩,
    ⟨some 38, .bin .lss (.tmp 36) (.tmp 37), none, [36, 37], []⟩,
    ⟨some 39, .mv (.tmp 38), none, [38], []⟩,
    ⟨some 40, .mv (.tmp 2), some (39, true), [2, 39], []⟩,
    ⟨some 41, .mv (.tmp 0), some (39, true), [0, 39], []⟩,
    ⟨some 42, .mv (.tmp 9), some (39, true), [9, 39], []⟩,
    ⟨some 43, .idx 6 (.tmp 41) (.tmp 42), some (39, true), [41, 42, 39], []⟩,
    ⟨some 44, .load true 6 (.tmp 43), some (39, true), [43, 39], []⟩,
    ⟨some 45, .mv (.tmp 1), some (39, true), [1, 39], []⟩,
    ⟨some 46, .callv (.tmp 40) [(.tmp 44), (.tmp 45)], some (39, true), [40, 44, 45, 39], []⟩,
    ⟨some 47, .bin .eql (.tmp 46) (.const (.int .i64 (0))), some (39, true), [46, 39], []⟩,
    ⟨some 48, .pick (.tmp 39) (.tmp 47) (.const (.bool false)), none, [39, 47], []⟩,
    ⟨some 6, .mv (.tmp 35), none, [35], []⟩,
    ⟨some 7, .mv (.tmp 48), none, [48], []⟩] [6, 7])
.ret)))))
theorem ok_83 : FnOk Tryz.prog 83 49 ac_83 [.tmp 6, .tmp 7] := ⟨Tryz.f83, Tryz.func83, by kernel_rfl, by kernel_rfl, by kernel_rfl, by kernel_rfl, by kernel_rfl⟩
def ac_84 : AC :=
(.seq (.reg false [⟨some 2, .box 118 (.tmp 0), none, [0], []⟩,
    ⟨some 4, .mv (.const (.int .i64 (0))), none, [], []⟩] [1, 2])
(.seq (.reg false [⟨some 5, .foff 0 (.tmp 2), none, [2], []⟩,
    ⟨some 6, .load false 1 (.tmp 5), none, [5], []⟩,
    ⟨some 7, .mv (.tmp 1), none, [1], []⟩,
    ⟨some 8, .call 85 [(.tmp 6), (.tmp 7)], none, [6, 7], []⟩,
    ⟨some 4, .mv (.tmp 8), none, [8], []⟩] [4])
.ret))
theorem ok_84 : FnOk Tryz.prog 84 9 ac_84 [.tmp 4] := ⟨Tryz.f84, Tryz.func84, by kernel_rfl, by kernel_rfl, by kernel_rfl, by kernel_rfl, by kernel_rfl⟩
end Go.Proofs.YtonglhkiobibgaaGreatDoor
namespace Go.Proofs.YtonglhkiobibgaaGreatDoor
set_option maxRecDepth 100000
def ac_85 : AC :=
(.seq (.reg false [⟨some 4, .mv (.const (.int .i64 (0))), none, [], []⟩] [0, 1])
(.seq (.reg false [⟨some 7, .mv (.tmp 0), none, [0], []⟩,
    ⟨some 8, .call 127 [(.tmp 7)], none, [7], []⟩,
    ⟨some 5, .mv (.tmp 8), none, [8], []⟩] [0, 1, 5])
(.seq (.reg false [⟨some 9, .mv (.tmp 1), none, [1], []⟩,
    ⟨some 10, .call 127 [(.tmp 9)], none, [9], []⟩,
    ⟨some 6, .mv (.tmp 10), none, [10], []⟩] [0, 1, 5, 6])
(.seq (.seq (.reg false [⟨some 11, .mv (.tmp 5), none, [5], []⟩] [0, 1, 6, 11])
(.cond (.tmp 11)
(.seq (.seq (.reg false [⟨some 12, .mv (.tmp 6), none, [6], []⟩] [12])
(.cond (.tmp 12)
(.seq (.reg false [⟨some 4, .mv (.const (.int .i64 (0))), none, [], []⟩] [4])
.ret)
.skip))
(.seq (.reg false [⟨some 4, .mv (.const (.int .i64 (-1))), none, [], []⟩] [4])
.ret))
.skip))
(.seq (.seq (.reg false [⟨some 13, .mv (.tmp 6), none, [6], []⟩] [0, 1, 13])
(.cond (.tmp 13)
(.seq (.reg false [⟨some 4, .mv (.const (.int .i64 (1))), none, [], []⟩] [4])
.ret)
.skip))
(.seq (.seq (.reg false [⟨some 14, .mv (.tmp 0), none, [0], []⟩,
    ⟨some 15, .mv (.tmp 1), none, [1], []⟩,
    ⟨some 16, .bin .lss (.tmp 14) (.tmp 15), none, [14, 15], []⟩] [0, 1, 16])
(.cond (.tmp 16)
(.seq (.reg false [⟨some 4, .mv (.const (.int .i64 (-1))), none, [], []⟩] [4])
.ret)
.skip))
(.seq (.seq (.reg false [⟨some 17, .mv (.tmp 0), none, [0], []⟩,
    ⟨some 18, .mv (.tmp 1), none, [1], []⟩,
    ⟨some 19, .bin .gtr (.tmp 17) (.tmp 18), none, [17, 18], []⟩] [19])
(.cond (.tmp 19)
(.seq (.reg false [⟨some 4, .mv (.const (.int .i64 (1))), none, [], []⟩] [4])
.ret)
.skip))
(.seq (.reg false [⟨some 4, .mv (.const (.int .i64 (0))), none, [], []⟩] [4])
.ret))))))))
theorem ok_85 : FnOk Tryz.prog 85 20 ac_85 [.tmp 4] := ⟨Tryz.f85, Tryz.func85, by kernel_rfl, by kernel_rfl, by kernel_rfl, by kernel_rfl, by kernel_rfl⟩
def ac_86 : AC :=
(.seq (.reg false [⟨some 4, .mv (.const (.bool false)), none, [], []⟩] [0, 1])
(.seq (.block 0 (.seq (.seq (.reg false [⟨some 6, .mv (.tmp 0), none, [0], []⟩,
    ⟨some 7, .nilc (.tmp 6), none, [6], []⟩,
    ⟨some 8, .foff 3 (.tmp 7), none, [7], []⟩,
    ⟨some 9, .load false 1 (.tmp 8), none, [8], []⟩,
    ⟨some 10, .call 128 [(.tmp 9)], none, [9], []⟩,
    ⟨some 11, .bin .neq (.tmp 10) (.const (.int .i64 (0))), none, [10], []⟩,
    ⟨some 5, .mv (.tmp 11), none, [11], []⟩] [0, 1, 5])
(.cond (.tmp 5)
.skip
(.seq (.reg false [⟨some 12, .mv (.tmp 0), none, [0], []⟩,
    ⟨some 13, .nilc (.tmp 12), none, [12], []⟩,
    ⟨some 14, .foff 4 (.tmp 13), none, [13], []⟩,
    ⟨some 15, .load true 2 (.tmp 14), none, [14], []⟩,
    ⟨some 16, .call 118 [(.tmp 15)], none, [15], []⟩,
    ⟨some 17, .bin .neq (.tmp 16) (.const (.int .i64 (0))), none, [16], []⟩,
    ⟨some 5, .mv (.tmp 17), none, [17], []⟩] [0, 1, 5])
(.cond (.tmp 5)
.skip
(.reg false [⟨some 18, .mv (.tmp 0), none, [0], []⟩,
    ⟨some 19, .nilc (.tmp 18), none, [18], []⟩,
    ⟨some 20, .foff 2 (.tmp 19), none, [19], []⟩,
    ⟨some 21, .load false 1 (.tmp 20), none, [20], []⟩,
    ⟨some 22, .mv (.tmp 1), none, [1], []⟩,
    ⟨some 23, .bin .neq (.tmp 21) (.tmp 22), none, [21, 22], []⟩,
    ⟨some 5, .mv (.tmp 23), none, [23], []⟩] [0, 1, 5])))))
(.cond (.tmp 5)
(.seq (.reg false [⟨some 4, .mv (.const (.bool false)), none, [], []⟩] [4])
.ret)
(.seq (.seq (.reg false [⟨some 25, .mv (.tmp 0), none, [0], []⟩,
    ⟨some 26, .nilc (.tmp 25), none, [25], []⟩,
    ⟨some 27, .foff 1 (.tmp 26), none, [26], []⟩,
    ⟨some 28, .load false 1 (.tmp 27), none, [27], []⟩,
    ⟨some 29, .mv (.tmp 28), none, [28], []⟩,
    ⟨some 30, .mv (.tmp 0), some (29, true), [0, 29], []⟩,
    ⟨some 31, .nilc (.tmp 30), some (29, true), [30, 29], []⟩,
    ⟨some 32, .foff 4 (.tmp 31), some (29, true), [31, 29], []⟩,
    ⟨some 33, .foff 0 (.tmp 32), some (29, true), [32, 29], []⟩,
    ⟨some 34, .load false 1 (.tmp 33), some (29, true), [33, 29], []⟩,
    ⟨some 35, .bin .neq (.tmp 34) (.const (.int .i64 (0))), some (29, true), [34, 29], []⟩,
    ⟨some 36, .pick (.tmp 29) (.tmp 35) (.const (.bool false)), none, [29, 35], []⟩,
    ⟨some 24, .mv (.tmp 36), none, [36], []⟩] [0, 1, 24])
(.cond (.tmp 24)
.skip
(.reg false [⟨some 37, .mv (.tmp 0), none, [0], []⟩,
    ⟨some 38, .nilc (.tmp 37), none, [37], []⟩,
    ⟨some 39, .foff 1 (.tmp 38), none, [38], []⟩,
    ⟨some 40, .load false 1 (.tmp 39), none, [39], []⟩,
    ⟨some 41, .un .not (.tmp 40), none, [40], []⟩,
    ⟨some 42, .mv (.tmp 41), none, [41], []⟩,
    ⟨some 43, .mv (.tmp 0), some (42, true), [0, 42], []⟩,
    ⟨some 44, .nilc (.tmp 43), some (42, true), [43, 42], []⟩,
    ⟨some 45, .foff 3 (.tmp 44), some (42, true), [44, 42], []⟩,
    ⟨some 46, .load false 1 (.tmp 45), some (42, true), [45, 42], []⟩,
    ⟨some 47, .len false (.tmp 46), some (42, true), [46, 42], []⟩,
    ⟨some 48, .bin .gtr (.tmp 47) (.const (.int .i64 (0))), some (42, true), [47, 42], []⟩,
    ⟨some 49, .pick (.tmp 42) (.tmp 48) (.const (.bool false)), none, [42, 48], []⟩,
    ⟨some 24, .mv (.tmp 49), none, [49], []⟩] [0, 1, 24])))
(.cond (.tmp 24)
(.seq (.reg false [⟨some 4, .mv (.const (.bool false)), none, [], []⟩] [4])
.ret)
(.seq (.reg false [⟨some 51, .mv (.tmp 0), none, [0], []⟩,
    ⟨some 52, .nilc (.tmp 51), none, [51], []⟩,
    ⟨some 53, .foff 0 (.tmp 52), none, [52], []⟩,
    ⟨some 54, .load false 1 (.tmp 53), none, [53], []⟩,
    ⟨some 55, .bin .eql (.tmp 54) (.const (.int .i64 (1))), none, [54], []⟩,
    ⟨some 50, .mv (.tmp 55), none, [55], []⟩] [0, 1, 50])
(.cond (.tmp 50)
(.seq (.reg false [⟨some 56, .mv (.tmp 0), none, [0], []⟩,
    ⟨some 57, .nilc (.tmp 56), none, [56], []⟩,
    ⟨some 58, .foff 1 (.tmp 57), none, [57], []⟩,
    ⟨some 59, .load false 1 (.tmp 58), none, [58], []⟩,
    ⟨some 60, .mv (.tmp 59), none, [59], []⟩,
    ⟨some 61, .mv (.tmp 1), some (60, true), [1, 60], []⟩,
    ⟨some 62, .bin .eql (.tmp 61) (.const (.int .i64 (0))), some (60, true), [61, 60], []⟩,
    ⟨some 63, .pick (.tmp 60) (.tmp 62) (.const (.bool false)), none, [60, 62], []⟩,
    ⟨some 4, .mv (.tmp 63), none, [63], []⟩] [4])
.ret)
(.seq (.reg false [⟨some 65, .mv (.tmp 0), none, [0], []⟩,
    ⟨some 66, .nilc (.tmp 65), none, [65], []⟩,
    ⟨some 67, .foff 1 (.tmp 66), none, [66], []⟩,
    ⟨some 68, .load false 1 (.tmp 67), none, [67], []⟩,
    ⟨some 64, .mv (.tmp 68), none, [68], []⟩] [1, 64])
(.cond (.tmp 64)
(.seq (.reg false [⟨some 69, .mv (.tmp 1), none, [1], []⟩,
    ⟨some 70, .bin .eql (.tmp 69) (.const (.int .i64 (1))), none, [69], []⟩,
    ⟨some 4, .mv (.tmp 70), none, [70], []⟩] [4])
.ret)
.skip)))))))))
(.seq (.reg false [⟨some 71, .mv (.tmp 1), none, [1], []⟩,
    ⟨some 72, .bin .geq (.tmp 71) (.const (.int .i64 (1))), none, [71], []⟩,
    ⟨some 73, .mv (.tmp 72), none, [72], []⟩,
    ⟨some 74, .mv (.tmp 1), some (73, true), [1, 73], []⟩,
    ⟨some 75, .bin .leq (.tmp 74) (.const (.int .i64 (16))), some (73, true), [74, 73], []⟩,
    ⟨some 76, .pick (.tmp 73) (.tmp 75) (.const (.bool false)), none, [73, 75], []⟩,
    ⟨some 4, .mv (.tmp 76), none, [76], []⟩] [4])
.ret)))
theorem ok_86 : FnOk Tryz.prog 86 77 ac_86 [.tmp 4] := ⟨Tryz.f86, Tryz.func86, by kernel_rfl, by kernel_rfl, by kernel_rfl, by kernel_rfl, by kernel_rfl⟩
def ac_87 : AC :=
(.seq (.reg false [⟨some 10, .mv (.tmp 3), none, [3], []⟩,
    ⟨some 11, .mv (.tmp 1), none, [1], []⟩,
    ⟨none, .mupd (.tmp 10) (.tmp 11) (.const (.bool true)), none, [10, 11], []⟩] [0, 1, 2, 3])
(.seq (.reg false [⟨some 12, .mv (.tmp 2), none, [2], []⟩,
    ⟨some 13, .bin .gtr (.tmp 12) (.const (.int .i64 (0))), none, [12], []⟩] [0, 1, 2, 3, 13])
(.cond (.tmp 13)
(.seq (.reg false [⟨some 14, .mv (.tmp 0), none, [0], []⟩,
    ⟨some 15, .mv (.tmp 1), none, [1], []⟩,
    ⟨some 16, .call 116 [(.tmp 14), (.tmp 15)], none, [14, 15], []⟩,
    ⟨some 17, .nilc (.tmp 16), none, [16], []⟩,
    ⟨some 18, .foff 3 (.tmp 17), none, [17], []⟩,
    ⟨some 19, .load false 1 (.tmp 18), none, [18], []⟩,
    ⟨some 20, .len false (.tmp 19), none, [19], []⟩,
    ⟨some 21, .mv (.const (.int .i64 (0))), none, [], []⟩] [0, 2, 3, 19, 20, 21])
(.block 0 (.loop (.seq (.reg false [⟨some 22, .bin .lss (.tmp 21) (.tmp 20), none, [21, 20], []⟩] [0, 2, 3, 19, 20, 21, 22])
(.seq (.cond (.tmp 22)
.skip
(.exit 0))
(.seq (.block 1 (.seq (.reg false [⟨some 23, .idx 2 (.tmp 19) (.tmp 21), none, [19, 21], []⟩,
    ⟨some 24, .load true 2 (.tmp 23), none, [23], []⟩,
    ⟨some 9, .new 134 [(.string (ByteArray.mk #[])), (.int .i64 (0))], none, [], []⟩,
    ⟨none, .store 2 (.tmp 9) (.tmp 24), none, [9, 24], []⟩] [0, 2, 3, 9, 19, 20, 21])
(.reg false [⟨some 25, .mv (.tmp 0), none, [0], []⟩,
    ⟨some 26, .foff 1 (.tmp 9), none, [9], []⟩,
    ⟨some 27, .load false 1 (.tmp 26), none, [26], []⟩,
    ⟨some 28, .mv (.tmp 2), none, [2], []⟩,
    ⟨some 29, .bin .sub (.tmp 28) (.const (.int .i64 (1))), none, [28], []⟩,
    ⟨some 30, .mv (.tmp 3), none, [3], []⟩,
    ⟨some 31, .call 87 [(.tmp 25), (.tmp 27), (.tmp 29), (.tmp 30)], none, [25, 27, 29, 30], []⟩] [0, 2, 3, 19, 20, 21])))
(.reg false [⟨some 32, .bin .add (.tmp 21) (.const (.int .i64 (1))), none, [21], []⟩,
    ⟨some 21, .mv (.tmp 32), none, [32], []⟩] [0, 2, 3, 19, 20, 21])))))))
.skip)))
theorem ok_87 : FnOk Tryz.prog 87 33 ac_87 [] := ⟨Tryz.f87, Tryz.func87, by kernel_rfl, by kernel_rfl, by kernel_rfl, by kernel_rfl, by kernel_rfl⟩
def ac_88 : AC :=
(.seq (.reg false [⟨some 6, .mv (.const (.int .i64 (0))), none, [], []⟩] [0, 1, 2])
(.seq (.reg false [⟨some 11, .mv (.tmp 0), none, [0], []⟩,
    ⟨some 12, .mv (.tmp 1), none, [1], []⟩,
    ⟨some 13, .call 116 [(.tmp 11), (.tmp 12)], none, [11, 12], []⟩,
    ⟨some 7, .mv (.tmp 13), none, [13], []⟩] [0, 2, 7])
(.seq (.seq (.reg false [⟨some 14, .mv (.tmp 7), none, [7], []⟩,
    ⟨some 15, .nilc (.tmp 14), none, [14], []⟩,
    ⟨some 16, .foff 1 (.tmp 15), none, [15], []⟩,
    ⟨some 17, .load false 1 (.tmp 16), none, [16], []⟩,
    ⟨some 18, .un .not (.tmp 17), none, [17], []⟩,
    ⟨some 19, .mv (.tmp 18), none, [18], []⟩,
    ⟨some 20, .mv (.tmp 2), some (19, false), [2, 19], []⟩,
    ⟨some 21, .bin .lss (.tmp 20) (.const (.int .i64 (0))), some (19, false), [20, 19], []⟩,
    ⟨some 22, .pick (.tmp 19) (.const (.bool true)) (.tmp 21), none, [19, 21], []⟩] [0, 2, 7, 22])
(.cond (.tmp 22)
(.seq (.reg false [⟨some 6, .mv (.const (.int .i64 (0))), none, [], []⟩] [6])
.ret)
.skip))
(.seq (.reg false [⟨some 8, .mv (.const (.int .i64 (0))), none, [], []⟩] [0, 2, 7, 8])
(.seq (.seq (.reg false [⟨some 23, .mv (.tmp 7), none, [7], []⟩,
    ⟨some 24, .nilc (.tmp 23), none, [23], []⟩,
    ⟨some 25, .foff 3 (.tmp 24), none, [24], []⟩,
    ⟨some 26, .load false 1 (.tmp 25), none, [25], []⟩,
    ⟨some 27, .len false (.tmp 26), none, [26], []⟩,
    ⟨some 28, .mv (.const (.int .i64 (0))), none, [], []⟩] [0, 2, 8, 26, 27, 28])
(.block 0 (.loop (.seq (.reg false [⟨some 29, .bin .lss (.tmp 28) (.tmp 27), none, [28, 27], []⟩] [0, 2, 8, 26, 27, 28, 29])
(.seq (.cond (.tmp 29)
.skip
(.exit 0))
(.seq (.block 1 (.seq (.reg false [⟨some 30, .idx 2 (.tmp 26) (.tmp 28), none, [26, 28], []⟩,
    ⟨some 31, .load true 2 (.tmp 30), none, [30], []⟩,
    ⟨some 10, .new 134 [(.string (ByteArray.mk #[])), (.int .i64 (0))], none, [], []⟩,
    ⟨none, .store 2 (.tmp 10) (.tmp 31), none, [10, 31], []⟩] [0, 2, 8, 10, 26, 27, 28])
(.reg false [⟨some 32, .mv (.tmp 8), none, [8], []⟩,
    ⟨some 33, .mv (.tmp 0), none, [0], []⟩,
    ⟨some 34, .foff 1 (.tmp 10), none, [10], []⟩,
    ⟨some 35, .load false 1 (.tmp 34), none, [34], []⟩,
    ⟨some 36, .mv (.tmp 2), none, [2], []⟩,
    ⟨some 37, .bin .sub (.tmp 36) (.const (.int .i64 (1))), none, [36], []⟩,
    ⟨some 38, .call 88 [(.tmp 33), (.tmp 35), (.tmp 37)], none, [33, 35, 37], []⟩,
    ⟨some 39, .bin .add (.const (.int .i64 (1))) (.tmp 38), none, [38], []⟩,
    ⟨some 40, .mm true (.tmp 32) (.tmp 39), none, [32, 39], []⟩,
    ⟨some 8, .mv (.tmp 40), none, [40], []⟩] [0, 2, 8, 26, 27, 28])))
(.reg false [⟨some 41, .bin .add (.tmp 28) (.const (.int .i64 (1))), none, [28], []⟩,
    ⟨some 28, .mv (.tmp 41), none, [41], []⟩] [0, 2, 8, 26, 27, 28])))))))
(.seq (.reg false [⟨some 42, .mv (.tmp 8), none, [8], []⟩,
    ⟨some 6, .mv (.tmp 42), none, [42], []⟩] [6])
.ret))))))
theorem ok_88 : FnOk Tryz.prog 88 43 ac_88 [.tmp 6] := ⟨Tryz.f88, Tryz.func88, by kernel_rfl, by kernel_rfl, by kernel_rfl, by kernel_rfl, by kernel_rfl⟩
def ac_108 : AC :=
(.seq (.reg false [⟨some 2, .mv (.const (.slice none 0 0)), none, [], []⟩] [0])
(.seq (.seq (.reg false [⟨some 3, .mv (.tmp 0), none, [0], []⟩,
    ⟨some 4, .isnil false (.slice none 0 0) (.tmp 3), none, [3], []⟩] [0, 4])
(.cond (.tmp 4)
(.seq (.reg false [⟨some 2, .mv (.const (.slice none 0 0)), none, [], []⟩] [2])
.ret)
.skip))
(.seq (.reg false [⟨some 5, .bslice 5 1 0 [] [], none, [], []⟩,
    ⟨some 6, .mv (.tmp 0), none, [0], []⟩,
    ⟨some 7, .append 5 1 1 (.tmp 5) (.tmp 6), none, [5, 6], []⟩,
    ⟨some 2, .mv (.tmp 7), none, [7], []⟩] [2])
.ret)))
theorem ok_108 : FnOk Tryz.prog 108 8 ac_108 [.tmp 2] := ⟨Tryz.f108, Tryz.func108, by kernel_rfl, by kernel_rfl, by kernel_rfl, by kernel_rfl, by kernel_rfl⟩
def ac_110 : AC :=
(.seq (.reg false [⟨some 2, .mv (.const (.slice none 0 0)), none, [], []⟩,
    ⟨some 3, .mv (.const (.int .i64 (0))), none, [], []⟩] [0])
(.seq (.seq (.reg false [⟨some 9, .mv (.tmp 0), none, [0], []⟩,
    ⟨some 10, .len true (.tmp 9), none, [9], []⟩,
    ⟨some 11, .bin .gtr (.tmp 10) (.const (.int .i64 (128))), none, [10], []⟩] [0, 11])
(.cond (.tmp 11)
(.seq (.reg false [⟨some 2, .mv (.const (.slice none 0 0)), none, [], []⟩,
    ⟨some 3, .mv (.const (.int .i64 (5))), none, [], []⟩] [2, 3])
.ret)
.skip))
(.seq (.reg false [⟨some 13, .mv (.tmp 0), none, [0], []⟩,
    ⟨some 14, .call 168 [(.tmp 13), (.const (.string (ByteArray.mk #[47])))], none, [13], []⟩,
    ⟨some 12, .mv (.tmp 14), none, [14], []⟩,
    ⟨some 15, .ext 0 (.tmp 12), none, [12], []⟩,
    ⟨some 16, .ext 1 (.tmp 12), none, [12], []⟩,
    ⟨some 4, .mv (.tmp 15), none, [15], []⟩,
    ⟨some 5, .mv (.tmp 16), none, [16], []⟩] [4, 5])
(.seq (.seq (.reg false [⟨some 17, .mv (.tmp 5), none, [5], []⟩,
    ⟨some 18, .un .not (.tmp 17), none, [17], []⟩] [4, 18])
(.cond (.tmp 18)
(.seq (.reg false [⟨some 2, .mv (.const (.slice none 0 0)), none, [], []⟩,
    ⟨some 3, .mv (.const (.int .i64 (106))), none, [], []⟩] [2, 3])
.ret)
.skip))
(.seq (.reg false [⟨some 6, .new 45 [(.slice none 0 0)], none, [], []⟩] [4, 6])
(.seq (.seq (.reg false [⟨some 19, .mv (.tmp 4), none, [4], []⟩,
    ⟨some 20, .call 169 [(.tmp 19), (.const (.string (ByteArray.mk #[47])))], none, [19], []⟩] [6, 20])
(.block 0 (.rfunc (.tmp 20) [21] [(7, (.tmp 21))]
(.block 1 (.seq (.reg false [⟨some 22, .mv (.tmp 7), none, [7], []⟩,
    ⟨some 23, .bin .neq (.tmp 22) (.const (.string (ByteArray.mk #[]))), none, [22], []⟩] [6, 7, 23])
(.cond (.tmp 23)
(.reg false [⟨some 24, .load false 1 (.tmp 6), none, [6], []⟩,
    ⟨some 25, .mv (.tmp 7), none, [7], []⟩,
    ⟨some 26, .bslice 9 1 1 [(.string (ByteArray.mk #[]))] [(0, 1, (.tmp 25))], none, [25], []⟩,
    ⟨some 27, .append 9 1 16 (.tmp 24) (.tmp 26), none, [24, 26], []⟩,
    ⟨none, .store 1 (.tmp 6) (.tmp 27), none, [6, 27], []⟩] [])
.skip))))))
(.seq (.seq (.reg false [⟨some 28, .load false 1 (.tmp 6), none, [6], []⟩,
    ⟨some 29, .call 170 [(.tmp 28)], none, [28], []⟩,
    ⟨some 8, .mv (.tmp 29), none, [29], []⟩] [6, 8])
(.seq (.reg false [⟨some 30, .mv (.tmp 8), none, [8], []⟩,
    ⟨some 31, .bin .neq (.tmp 30) (.const (.int .i64 (0))), none, [30], []⟩] [6, 8, 31])
(.cond (.tmp 31)
(.seq (.reg false [⟨some 32, .mv (.tmp 8), none, [8], []⟩,
    ⟨some 2, .mv (.const (.slice none 0 0)), none, [], []⟩,
    ⟨some 3, .mv (.tmp 32), none, [32], []⟩] [2, 3])
.ret)
.skip)))
(.seq (.reg false [⟨some 33, .load false 1 (.tmp 6), none, [6], []⟩,
    ⟨some 2, .mv (.tmp 33), none, [33], []⟩,
    ⟨some 3, .mv (.const (.int .i64 (0))), none, [], []⟩] [2, 3])
.ret))))))))
theorem ok_110 : FnOk Tryz.prog 110 34 ac_110 [.tmp 2, .tmp 3] := ⟨Tryz.f110, Tryz.func110, by kernel_rfl, by kernel_rfl, by kernel_rfl, by kernel_rfl, by kernel_rfl⟩
def ac_111 : AC :=
(.seq (.reg false [⟨some 1, .box 28 (.tmp 0), none, [0], []⟩,
    ⟨some 2, .mv (.const (.pointer none)), none, [], []⟩] [1])
(.seq (.reg true [⟨some 6, .foff 0 (.tmp 1), none, [1], []⟩,
    ⟨some 7, .load false 1 (.tmp 6), none, [6], [0]⟩,
    ⟨some 8, .call 129 [(.tmp 7)], none, [7], [1, 0]⟩,
    ⟨some 9, .foff 1 (.tmp 1), none, [1], []⟩,
    ⟨some 10, .load false 1 (.tmp 9), none, [9], [3]⟩,
    ⟨some 11, .build [(.slice none 0 0), (.int .i64 (0))] [(0, 1, (.tmp 8)), (1, 1, (.tmp 10))], none, [8, 10], [2, 4, 1, 0, 3]⟩,
    ⟨some 12, .box 28 (.tmp 11), none, [11], [5, 2, 4, 1, 0, 3]⟩,
    ⟨some 3, .mv (.tmp 12), none, [12], [6, 2, 0, 1, 3, 4, 5]⟩] [3])
(.seq (.seq (.reg false [⟨some 13, .mv (.tmp 3), none, [3], []⟩,
    ⟨some 14, .nilc (.tmp 13), none, [13], []⟩,
    ⟨some 15, .foff 0 (.tmp 14), none, [14], []⟩,
    ⟨some 16, .load false 1 (.tmp 15), none, [15], []⟩,
    ⟨some 17, .len false (.tmp 16), none, [16], []⟩,
    ⟨some 18, .mv (.const (.int .i64 (0))), none, [], []⟩] [3, 17, 18])
(.block 0 (.loop (.seq (.reg false [⟨some 19, .bin .lss (.tmp 18) (.tmp 17), none, [18, 17], []⟩] [3, 17, 18, 19])
(.seq (.cond (.tmp 19)
.skip
(.exit 0))
(.seq (.block 1 (.seq (.reg false [⟨some 20, .mv (.tmp 18), none, [18], []⟩,
    ⟨some 4, .mv (.tmp 20), none, [20], []⟩] [3, 4, 17, 18])
(.seq (.reg false [⟨some 21, .mv (.tmp 3), none, [3], []⟩,
    ⟨some 22, .nilc (.tmp 21), none, [21], []⟩,
    ⟨some 23, .foff 0 (.tmp 22), none, [22], []⟩,
    ⟨some 24, .load false 1 (.tmp 23), none, [23], []⟩,
    ⟨some 25, .mv (.tmp 4), none, [4], []⟩,
    ⟨some 26, .idx 6 (.tmp 24) (.tmp 25), none, [24, 25], []⟩,
    ⟨some 5, .mv (.tmp 26), none, [26], []⟩] [3, 5, 17, 18])
(.seq (.reg false [⟨some 27, .mv (.tmp 5), none, [5], []⟩,
    ⟨some 28, .mv (.tmp 5), none, [5], []⟩,
    ⟨some 29, .nilc (.tmp 28), none, [28], []⟩,
    ⟨some 30, .foff 3 (.tmp 29), none, [29], []⟩,
    ⟨some 31, .load false 1 (.tmp 30), none, [30], []⟩,
    ⟨some 32, .call 130 [(.tmp 31)], none, [31], []⟩,
    ⟨some 33, .nilc (.tmp 27), none, [27], []⟩,
    ⟨some 34, .foff 3 (.tmp 33), none, [33], []⟩,
    ⟨none, .store 1 (.tmp 34) (.tmp 32), none, [34, 32], []⟩] [3, 5, 17, 18])
(.reg true [⟨some 36, .mv (.tmp 5), none, [5], []⟩,
    ⟨some 37, .mv (.tmp 5), none, [5], []⟩,
    ⟨some 38, .nilc (.tmp 37), none, [37], [1]⟩,
    ⟨some 39, .foff 4 (.tmp 38), none, [38], [2, 1]⟩,
    ⟨some 40, .load true 2 (.tmp 39), none, [39], [3, 2, 1]⟩,
    ⟨some 41, .mv (.tmp 5), none, [5], []⟩,
    ⟨some 42, .nilc (.tmp 41), none, [41], [5]⟩,
    ⟨some 43, .foff 4 (.tmp 42), none, [42], [6, 5]⟩,
    ⟨some 44, .foff 0 (.tmp 43), none, [43], [7, 6, 5]⟩,
    ⟨some 45, .load false 1 (.tmp 44), none, [44], [8, 7, 6, 5]⟩,
    ⟨some 46, .call 171 [(.tmp 40), (.tmp 45)], none, [40, 45], [4, 9, 3, 2, 1, 8, 7, 6, 5]⟩,
    ⟨some 35, .mv (.tmp 46), none, [46], [10, 4, 9, 3, 2, 1, 8, 7, 6, 5]⟩,
    ⟨some 47, .ext 0 (.tmp 35), none, [35], [11, 10, 4, 9, 3, 2, 1, 8, 7, 6, 5]⟩,
    ⟨some 48, .ext 1 (.tmp 35), none, [35], [11, 10, 4, 9, 3, 2, 1, 8, 7, 6, 5]⟩,
    ⟨some 49, .nilc (.tmp 36), none, [36], [0, 1, 2, 3, 4, 5, 6, 7, 8, 9, 10, 11, 12]⟩,
    ⟨some 50, .foff 4 (.tmp 49), none, [49], [14, 0, 1, 2, 3, 4, 5, 6, 7, 8, 9, 10, 11, 12]⟩,
    ⟨none, .store 2 (.tmp 50) (.tmp 47), none, [50, 47], [15, 12, 10, 0, 1, 2, 3, 4, 5, 6, 7, 8, 9, 11, 14]⟩] [3, 17, 18])))))
(.reg false [⟨some 51, .bin .add (.tmp 18) (.const (.int .i64 (1))), none, [18], []⟩,
    ⟨some 18, .mv (.tmp 51), none, [51], []⟩] [3, 17, 18])))))))
(.seq (.reg false [⟨some 52, .mv (.tmp 3), none, [3], []⟩,
    ⟨some 2, .mv (.tmp 52), none, [52], []⟩] [2])
.ret))))
theorem ok_111 : FnOk Tryz.prog 111 53 ac_111 [.tmp 2] := ⟨Tryz.f111, Tryz.func111, by kernel_rfl, by kernel_rfl, by kernel_rfl, by kernel_rfl, by kernel_rfl⟩
def ac_112 : AC :=
(.seq (.reg false [⟨some 4, .new 175 [(.int .i64 (0)), (.string (ByteArray.mk #[])), (.int .i64 (0))], none, [], []⟩,
    ⟨some 5, .mv (.const .nilIface), none, [], []⟩] [0, 1, 4])
(.seq (.reg false [⟨some 13, .mv (.tmp 1), none, [1], []⟩,
    ⟨some 14, .len false (.tmp 13), none, [13], []⟩,
    ⟨some 15, .bin .sub (.tmp 14) (.const (.int .i64 (1))), none, [14], []⟩,
    ⟨some 6, .mv (.tmp 15), none, [15], []⟩] [0, 1, 4, 6])
(.seq (.reg false [⟨some 17, .mv (.tmp 0), none, [0], []⟩,
    ⟨some 18, .mv (.tmp 1), none, [1], []⟩,
    ⟨some 19, .mv (.tmp 6), none, [6], []⟩,
    ⟨some 20, .slice 1 (.tmp 18) none (some (.tmp 19)), none, [18, 19], []⟩,
    ⟨some 21, .call 115 [(.tmp 17), (.tmp 20)], none, [17, 20], []⟩,
    ⟨some 16, .mv (.tmp 21), none, [21], []⟩,
    ⟨some 22, .ext 0 (.tmp 16), none, [16], []⟩,
    ⟨some 23, .ext 1 (.tmp 16), none, [16], []⟩,
    ⟨some 7, .mv (.tmp 22), none, [22], []⟩,
    ⟨some 8, .mv (.tmp 23), none, [23], []⟩] [0, 1, 4, 6, 7, 8])
(.seq (.seq (.reg false [⟨some 24, .mv (.tmp 8), none, [8], []⟩,
    ⟨some 25, .isnil true .nilIface (.tmp 24), none, [24], []⟩] [0, 1, 4, 6, 7, 8, 25])
(.cond (.tmp 25)
(.seq (.reg false [⟨some 26, .build [(.int .i64 (0)), (.string (ByteArray.mk #[])), (.int .i64 (0))] [], none, [], []⟩,
    ⟨some 27, .mv (.tmp 8), none, [8], []⟩,
    ⟨some 28, .call 114 [(.const (.string (ByteArray.mk #[112, 97, 114, 101, 110, 116]))), (.tmp 27)], none, [27], []⟩,
    ⟨none, .store 3 (.tmp 4) (.tmp 26), none, [4, 26], []⟩,
    ⟨some 5, .mv (.tmp 28), none, [28], []⟩] [4, 5])
.ret)
.skip))
(.seq (.reg false [⟨some 29, .mv (.tmp 0), none, [0], []⟩,
    ⟨some 30, .mv (.tmp 7), none, [7], []⟩,
    ⟨some 31, .call 116 [(.tmp 29), (.tmp 30)], none, [29, 30], []⟩,
    ⟨some 9, .mv (.tmp 31), none, [31], []⟩] [1, 4, 6, 7, 9])
(.seq (.seq (.reg false [⟨some 32, .mv (.tmp 9), none, [9], []⟩,
    ⟨some 33, .nilc (.tmp 32), none, [32], []⟩,
    ⟨some 34, .foff 1 (.tmp 33), none, [33], []⟩,
    ⟨some 35, .load false 1 (.tmp 34), none, [34], []⟩,
    ⟨some 36, .un .not (.tmp 35), none, [35], []⟩] [1, 4, 6, 7, 9, 36])
(.cond (.tmp 36)
(.seq (.reg false [⟨some 37, .build [(.int .i64 (0)), (.string (ByteArray.mk #[])), (.int .i64 (0))] [], none, [], []⟩,
    ⟨some 38, .mv (.tmp 1), none, [1], []⟩,
    ⟨some 39, .mv (.tmp 6), none, [6], []⟩,
    ⟨some 40, .idx 1 (.tmp 38) (.tmp 39), none, [38, 39], []⟩,
    ⟨some 41, .load false 1 (.tmp 40), none, [40], []⟩,
    ⟨some 42, .call 77 [(.const (.int .i64 (103))), (.tmp 41)], none, [41], []⟩,
    ⟨none, .store 3 (.tmp 4) (.tmp 37), none, [4, 37], []⟩,
    ⟨some 5, .mv (.tmp 42), none, [42], []⟩] [4, 5])
.ret)
.skip))
(.seq (.reg true [⟨some 44, .mv (.tmp 9), none, [9], []⟩,
    ⟨some 45, .nilc (.tmp 44), none, [44], [0]⟩,
    ⟨some 46, .foff 3 (.tmp 45), none, [45], [1, 0]⟩,
    ⟨some 47, .load false 1 (.tmp 46), none, [46], [2, 1, 0]⟩,
    ⟨some 48, .mv (.tmp 1), none, [1], []⟩,
    ⟨some 49, .mv (.tmp 6), none, [6], []⟩,
    ⟨some 50, .idx 1 (.tmp 48) (.tmp 49), none, [48, 49], [4, 5]⟩,
    ⟨some 51, .load false 1 (.tmp 50), none, [50], [6, 4, 5]⟩,
    ⟨some 52, .call 172 [(.tmp 47), (.tmp 51)], none, [47, 51], [3, 7, 2, 1, 0, 6, 4, 5]⟩,
    ⟨some 43, .mv (.tmp 52), none, [52], [8, 3, 7, 2, 1, 0, 6, 4, 5]⟩,
    ⟨some 53, .ext 0 (.tmp 43), none, [43], [9, 8, 3, 7, 2, 1, 0, 6, 4, 5]⟩,
    ⟨some 54, .ext 1 (.tmp 43), none, [43], [9, 8, 3, 7, 2, 1, 0, 6, 4, 5]⟩,
    ⟨some 55, .ext 2 (.tmp 43), none, [43], [9, 8, 3, 7, 2, 1, 0, 6, 4, 5]⟩,
    ⟨some 10, .mv (.tmp 53), none, [53], [10, 8, 0, 1, 2, 3, 4, 5, 6, 7, 9]⟩,
    ⟨some 11, .mv (.tmp 54), none, [54], [11, 13, 0, 1, 2, 3, 4, 5, 6, 7, 8, 9, 10]⟩,
    ⟨some 12, .mv (.tmp 55), none, [55], [12, 14, 0, 1, 2, 3, 4, 5, 6, 7, 8, 9, 10, 11, 13]⟩] [1, 4, 6, 7, 10])
(.seq (.reg false [⟨some 56, .mv (.tmp 7), none, [7], []⟩,
    ⟨some 57, .mv (.tmp 1), none, [1], []⟩,
    ⟨some 58, .mv (.tmp 6), none, [6], []⟩,
    ⟨some 59, .idx 1 (.tmp 57) (.tmp 58), none, [57, 58], []⟩,
    ⟨some 60, .load false 1 (.tmp 59), none, [59], []⟩,
    ⟨some 61, .mv (.tmp 10), none, [10], []⟩,
    ⟨some 62, .build [(.int .i64 (0)), (.string (ByteArray.mk #[])), (.int .i64 (0))] [(0, 1, (.tmp 56)), (1, 1, (.tmp 60)), (2, 1, (.tmp 61))], none, [56, 60, 61], []⟩,
    ⟨none, .store 3 (.tmp 4) (.tmp 62), none, [4, 62], []⟩,
    ⟨some 5, .mv (.const .nilIface), none, [], []⟩] [4, 5])
.ret))))))))
theorem ok_112 : FnOk Tryz.prog 112 63 ac_112 [.cell 4 true 3, .tmp 5] := ⟨Tryz.f112, Tryz.func112, by kernel_rfl, by kernel_rfl, by kernel_rfl, by kernel_rfl, by kernel_rfl⟩
def ac_113 : AC :=
(.seq (.reg false [⟨some 4, .box 175 (.tmp 1), none, [1], []⟩,
    ⟨some 6, .mv (.const .nilIface), none, [], []⟩] [0, 2, 4])
(.seq (.reg false [⟨some 10, .mv (.tmp 0), none, [0], []⟩,
    ⟨some 11, .foff 0 (.tmp 4), none, [4], []⟩,
    ⟨some 12, .load false 1 (.tmp 11), none, [11], []⟩,
    ⟨some 13, .call 116 [(.tmp 10), (.tmp 12)], none, [10, 12], []⟩,
    ⟨some 7, .mv (.tmp 13), none, [13], []⟩] [2, 4, 7])
(.seq (.reg true [⟨some 15, .mv (.tmp 7), none, [7], []⟩,
    ⟨some 16, .nilc (.tmp 15), none, [15], [0]⟩,
    ⟨some 17, .foff 3 (.tmp 16), none, [16], [1, 0]⟩,
    ⟨some 18, .load false 1 (.tmp 17), none, [17], [2, 1, 0]⟩,
    ⟨some 19, .foff 1 (.tmp 4), none, [4], []⟩,
    ⟨some 20, .load false 1 (.tmp 19), none, [19], [4]⟩,
    ⟨some 21, .mv (.tmp 2), none, [2], []⟩,
    ⟨some 22, .build [(.string (ByteArray.mk #[])), (.int .i64 (0))] [(0, 1, (.tmp 20)), (1, 1, (.tmp 21))], none, [20, 21], [5, 6, 4]⟩,
    ⟨some 23, .call 173 [(.tmp 18), (.tmp 22)], none, [18, 22], [3, 7, 2, 1, 0, 5, 6, 4]⟩,
    ⟨some 14, .mv (.tmp 23), none, [23], [8, 3, 7, 2, 1, 0, 5, 6, 4]⟩,
    ⟨some 24, .ext 0 (.tmp 14), none, [14], [9, 8, 3, 7, 2, 1, 0, 5, 6, 4]⟩,
    ⟨some 25, .ext 1 (.tmp 14), none, [14], [9, 8, 3, 7, 2, 1, 0, 5, 6, 4]⟩,
    ⟨some 8, .mv (.tmp 24), none, [24], [10, 8, 0, 1, 2, 3, 4, 5, 6, 7, 9]⟩,
    ⟨some 9, .mv (.tmp 25), none, [25], [11, 12, 0, 1, 2, 3, 4, 5, 6, 7, 8, 9, 10]⟩] [4, 7, 8, 9])
(.seq (.seq (.reg false [⟨some 26, .mv (.tmp 9), none, [9], []⟩,
    ⟨some 27, .bin .neq (.tmp 26) (.const (.int .i64 (0))), none, [26], []⟩] [4, 7, 8, 9, 27])
(.cond (.tmp 27)
(.seq (.reg false [⟨some 28, .mv (.tmp 9), none, [9], []⟩,
    ⟨some 29, .foff 1 (.tmp 4), none, [4], []⟩,
    ⟨some 30, .load false 1 (.tmp 29), none, [29], []⟩,
    ⟨some 31, .call 77 [(.tmp 28), (.tmp 30)], none, [28, 30], []⟩,
    ⟨some 6, .mv (.tmp 31), none, [31], []⟩] [6])
.ret)
.skip))
(.seq (.reg false [⟨some 32, .mv (.tmp 7), none, [7], []⟩,
    ⟨some 33, .mv (.tmp 8), none, [8], []⟩,
    ⟨some 34, .nilc (.tmp 32), none, [32], []⟩,
    ⟨some 35, .foff 3 (.tmp 34), none, [34], []⟩,
    ⟨none, .store 1 (.tmp 35) (.tmp 33), none, [35, 33], []⟩] [])
(.seq (.reg false [⟨some 6, .mv (.const .nilIface), none, [], []⟩] [6])
.ret))))))
theorem ok_113 : FnOk Tryz.prog 113 36 ac_113 [.tmp 6] := ⟨Tryz.f113, Tryz.func113, by kernel_rfl, by kernel_rfl, by kernel_rfl, by kernel_rfl, by kernel_rfl⟩
def ac_114 : AC :=
(.seq (.reg false [⟨some 4, .mv (.const .nilIface), none, [], []⟩] [0, 1])
(.seq (.seq (.reg false [⟨some 5, .mv (.tmp 1), none, [1], []⟩,
    ⟨some 6, .isnil false .nilIface (.tmp 5), none, [5], []⟩] [0, 1, 6])
(.cond (.tmp 6)
(.seq (.reg false [⟨some 4, .mv (.const .nilIface), none, [], []⟩] [4])
.ret)
.skip))
(.seq (.reg false [⟨some 7, .mv (.tmp 0), none, [0], []⟩,
    ⟨some 8, .mv (.tmp 1), none, [1], []⟩,
    ⟨some 9, .build [(.string (ByteArray.mk #[])), .nilIface] [(0, 1, (.tmp 7)), (1, 1, (.tmp 8))], none, [7, 8], []⟩,
    ⟨some 10, .mkif 268 (.tmp 9), none, [9], []⟩,
    ⟨some 4, .mv (.tmp 10), none, [10], []⟩] [4])
.ret)))
theorem ok_114 : FnOk Tryz.prog 114 11 ac_114 [.tmp 4] := ⟨Tryz.f114, Tryz.func114, by kernel_rfl, by kernel_rfl, by kernel_rfl, by kernel_rfl, by kernel_rfl⟩
def ac_115 : AC :=
(.seq (.reg false [⟨some 4, .mv (.const (.int .i64 (0))), none, [], []⟩,
    ⟨some 5, .mv (.const .nilIface), none, [], []⟩] [0, 1])
(.seq (.reg false [⟨some 6, .mv (.const (.int .i64 (1))), none, [], []⟩] [0, 1, 6])
(.seq (.seq (.reg false [⟨some 13, .mv (.tmp 1), none, [1], []⟩,
    ⟨some 14, .len false (.tmp 13), none, [13], []⟩,
    ⟨some 15, .mv (.const (.int .i64 (0))), none, [], []⟩] [0, 6, 13, 14, 15])
(.block 0 (.loop (.seq (.reg false [⟨some 16, .bin .lss (.tmp 15) (.tmp 14), none, [15, 14], []⟩] [0, 6, 13, 14, 15, 16])
(.seq (.cond (.tmp 16)
.skip
(.exit 0))
(.seq (.block 1 (.seq (.reg false [⟨some 17, .idx 1 (.tmp 13) (.tmp 15), none, [13, 15], []⟩,
    ⟨some 18, .load false 1 (.tmp 17), none, [17], []⟩,
    ⟨some 8, .mv (.tmp 18), none, [18], []⟩] [0, 6, 8, 13, 14, 15])
(.seq (.reg false [⟨some 19, .mv (.tmp 0), none, [0], []⟩,
    ⟨some 20, .mv (.tmp 6), none, [6], []⟩,
    ⟨some 21, .call 116 [(.tmp 19), (.tmp 20)], none, [19, 20], []⟩,
    ⟨some 9, .mv (.tmp 21), none, [21], []⟩] [0, 8, 9, 13, 14, 15])
(.seq (.seq (.reg false [⟨some 22, .mv (.tmp 9), none, [9], []⟩,
    ⟨some 23, .nilc (.tmp 22), none, [22], []⟩,
    ⟨some 24, .foff 1 (.tmp 23), none, [23], []⟩,
    ⟨some 25, .load false 1 (.tmp 24), none, [24], []⟩,
    ⟨some 26, .un .not (.tmp 25), none, [25], []⟩] [0, 8, 9, 13, 14, 15, 26])
(.cond (.tmp 26)
(.seq (.reg false [⟨some 27, .mv (.tmp 8), none, [8], []⟩,
    ⟨some 28, .call 77 [(.const (.int .i64 (103))), (.tmp 27)], none, [27], []⟩,
    ⟨some 4, .mv (.const (.int .i64 (0))), none, [], []⟩,
    ⟨some 5, .mv (.tmp 28), none, [28], []⟩] [4, 5])
.ret)
.skip))
(.seq (.reg false [⟨some 30, .mv (.tmp 9), none, [9], []⟩,
    ⟨some 31, .nilc (.tmp 30), none, [30], []⟩,
    ⟨some 32, .foff 3 (.tmp 31), none, [31], []⟩,
    ⟨some 33, .load false 1 (.tmp 32), none, [32], []⟩,
    ⟨some 34, .mv (.tmp 8), none, [8], []⟩,
    ⟨some 35, .call 172 [(.tmp 33), (.tmp 34)], none, [33, 34], []⟩,
    ⟨some 29, .mv (.tmp 35), none, [35], []⟩,
    ⟨some 36, .ext 0 (.tmp 29), none, [29], []⟩,
    ⟨some 37, .ext 1 (.tmp 29), none, [29], []⟩,
    ⟨some 38, .ext 2 (.tmp 29), none, [29], []⟩,
    ⟨some 10, .mv (.tmp 36), none, [36], []⟩,
    ⟨some 11, .mv (.tmp 37), none, [37], []⟩,
    ⟨some 12, .mv (.tmp 38), none, [38], []⟩] [0, 8, 10, 11, 13, 14, 15])
(.seq (.seq (.reg false [⟨some 39, .mv (.tmp 11), none, [11], []⟩,
    ⟨some 40, .un .not (.tmp 39), none, [39], []⟩] [0, 8, 10, 13, 14, 15, 40])
(.cond (.tmp 40)
(.seq (.reg false [⟨some 41, .mv (.tmp 8), none, [8], []⟩,
    ⟨some 42, .call 77 [(.const (.int .i64 (101))), (.tmp 41)], none, [41], []⟩,
    ⟨some 4, .mv (.const (.int .i64 (0))), none, [], []⟩,
    ⟨some 5, .mv (.tmp 42), none, [42], []⟩] [4, 5])
.ret)
.skip))
(.reg false [⟨some 43, .mv (.tmp 10), none, [10], []⟩,
    ⟨some 6, .mv (.tmp 43), none, [43], []⟩] [0, 6, 13, 14, 15])))))))
(.reg false [⟨some 44, .bin .add (.tmp 15) (.const (.int .i64 (1))), none, [15], []⟩,
    ⟨some 15, .mv (.tmp 44), none, [44], []⟩] [0, 6, 13, 14, 15])))))))
(.seq (.reg false [⟨some 45, .mv (.tmp 6), none, [6], []⟩,
    ⟨some 4, .mv (.tmp 45), none, [45], []⟩,
    ⟨some 5, .mv (.const .nilIface), none, [], []⟩] [4, 5])
.ret))))
theorem ok_115 : FnOk Tryz.prog 115 46 ac_115 [.tmp 4, .tmp 5] := ⟨Tryz.f115, Tryz.func115, by kernel_rfl, by kernel_rfl, by kernel_rfl, by kernel_rfl, by kernel_rfl⟩
def ac_116 : AC :=
(.seq (.reg false [⟨some 4, .mv (.const (.pointer none)), none, [], []⟩] [0, 1])
(.seq (.reg false [⟨some 8, .mv (.tmp 0), none, [0], []⟩,
    ⟨some 9, .mv (.tmp 1), none, [1], []⟩,
    ⟨some 10, .call 174 [(.tmp 8), (.tmp 9)], none, [8, 9], []⟩,
    ⟨some 7, .mv (.tmp 10), none, [10], []⟩,
    ⟨some 11, .ext 0 (.tmp 7), none, [7], []⟩,
    ⟨some 12, .ext 1 (.tmp 7), none, [7], []⟩,
    ⟨some 5, .mv (.tmp 11), none, [11], []⟩,
    ⟨some 6, .mv (.tmp 12), none, [12], []⟩] [0, 5])
(.seq (.reg false [⟨some 13, .mv (.tmp 0), none, [0], []⟩,
    ⟨some 14, .nilc (.tmp 13), none, [13], []⟩,
    ⟨some 15, .foff 0 (.tmp 14), none, [14], []⟩,
    ⟨some 16, .load false 1 (.tmp 15), none, [15], []⟩,
    ⟨some 17, .mv (.tmp 5), none, [5], []⟩,
    ⟨some 18, .idx 6 (.tmp 16) (.tmp 17), none, [16, 17], []⟩,
    ⟨some 4, .mv (.tmp 18), none, [18], []⟩] [4])
.ret)))
theorem ok_116 : FnOk Tryz.prog 116 19 ac_116 [.tmp 4] := ⟨Tryz.f116, Tryz.func116, by kernel_rfl, by kernel_rfl, by kernel_rfl, by kernel_rfl, by kernel_rfl⟩
def ac_118 : AC :=
(.seq (.reg false [⟨some 1, .box 115 (.tmp 0), none, [0], []⟩,
    ⟨some 2, .mv (.const (.int .i64 (0))), none, [], []⟩] [1])
(.seq (.reg false [⟨some 11, .foff 0 (.tmp 1), none, [1], []⟩,
    ⟨some 12, .load false 1 (.tmp 11), none, [11], []⟩,
    ⟨some 13, .call 176 [(.tmp 12)], none, [12], []⟩,
    ⟨some 10, .mv (.tmp 13), none, [13], []⟩,
    ⟨some 14, .ext 0 (.tmp 10), none, [10], []⟩,
    ⟨some 15, .ext 1 (.tmp 10), none, [10], []⟩,
    ⟨some 16, .ext 2 (.tmp 10), none, [10], []⟩,
    ⟨some 3, .mv (.tmp 14), none, [14], []⟩,
    ⟨some 4, .mv (.tmp 15), none, [15], []⟩,
    ⟨some 5, .mv (.tmp 16), none, [16], []⟩] [1, 3, 5])
(.seq (.seq (.reg false [⟨some 17, .mv (.tmp 5), none, [5], []⟩,
    ⟨some 18, .bin .neq (.tmp 17) (.const (.int .i64 (0))), none, [17], []⟩] [1, 3, 18])
(.cond (.tmp 18)
(.seq (.reg false [⟨some 2, .mv (.const (.int .i64 (9))), none, [], []⟩] [2])
.ret)
.skip))
(.seq (.reg false [⟨some 6, .mv (.const (.int .i64 (-1))), none, [], []⟩] [1, 3, 6])
(.seq (.seq (.reg false [⟨some 19, .foff 1 (.tmp 1), none, [1], []⟩,
    ⟨some 20, .load false 1 (.tmp 19), none, [19], []⟩,
    ⟨some 21, .len false (.tmp 20), none, [20], []⟩,
    ⟨some 22, .mv (.const (.int .i64 (0))), none, [], []⟩] [1, 3, 6, 20, 21, 22])
(.block 0 (.loop (.seq (.reg false [⟨some 23, .bin .lss (.tmp 22) (.tmp 21), none, [22, 21], []⟩] [1, 3, 6, 20, 21, 22, 23])
(.seq (.cond (.tmp 23)
.skip
(.exit 0))
(.seq (.block 1 (.seq (.reg false [⟨some 24, .idx 2 (.tmp 20) (.tmp 22), none, [20, 22], []⟩,
    ⟨some 25, .load true 2 (.tmp 24), none, [24], []⟩,
    ⟨some 8, .new 183 [(.int .i64 (0)), (.slice none 0 0)], none, [], []⟩,
    ⟨none, .store 2 (.tmp 8) (.tmp 25), none, [8, 25], []⟩] [1, 3, 6, 8, 20, 21, 22])
(.seq (.seq (.reg false [⟨some 26, .foff 0 (.tmp 8), none, [8], []⟩,
    ⟨some 27, .load false 1 (.tmp 26), none, [26], []⟩,
    ⟨some 28, .mv (.tmp 6), none, [6], []⟩,
    ⟨some 29, .bin .leq (.tmp 27) (.tmp 28), none, [27, 28], []⟩,
    ⟨some 30, .mv (.tmp 29), none, [29], []⟩,
    ⟨some 31, .foff 0 (.tmp 8), some (30, false), [8, 30], []⟩,
    ⟨some 32, .load false 1 (.tmp 31), some (30, false), [31, 30], []⟩,
    ⟨some 33, .mv (.tmp 3), some (30, false), [3, 30], []⟩,
    ⟨some 34, .bin .geq (.tmp 32) (.tmp 33), some (30, false), [32, 33, 30], []⟩,
    ⟨some 35, .pick (.tmp 30) (.const (.bool true)) (.tmp 34), none, [30, 34], []⟩,
    ⟨some 36, .mv (.tmp 35), none, [35], []⟩,
    ⟨some 37, .foff 1 (.tmp 8), some (36, false), [8, 36], []⟩,
    ⟨some 38, .load false 1 (.tmp 37), some (36, false), [37, 36], []⟩,
    ⟨some 39, .len false (.tmp 38), some (36, false), [38, 36], []⟩,
    ⟨some 40, .bin .neq (.tmp 39) (.const (.int .i64 (32))), some (36, false), [39, 36], []⟩,
    ⟨some 41, .pick (.tmp 36) (.const (.bool true)) (.tmp 40), none, [36, 40], []⟩,
    ⟨some 42, .mv (.tmp 41), none, [41], []⟩,
    ⟨some 43, .foff 1 (.tmp 8), some (42, false), [8, 42], []⟩,
    ⟨some 44, .load false 1 (.tmp 43), some (42, false), [43, 42], []⟩,
    ⟨some 45, .call 177 [(.tmp 44)], some (42, false), [44, 42], []⟩,
    ⟨some 46, .pick (.tmp 42) (.const (.bool true)) (.tmp 45), none, [42, 45], []⟩] [1, 3, 8, 20, 21, 22, 46])
(.cond (.tmp 46)
(.seq (.reg false [⟨some 2, .mv (.const (.int .i64 (9))), none, [], []⟩] [2])
.ret)
.skip))
(.seq (.reg false [⟨some 47, .foff 0 (.tmp 8), none, [8], []⟩,
    ⟨some 48, .load false 1 (.tmp 47), none, [47], []⟩,
    ⟨some 6, .mv (.tmp 48), none, [48], []⟩] [1, 3, 6, 8, 20, 21, 22])
(.seq (.reg false [⟨some 49, .foff 0 (.tmp 1), none, [1], []⟩,
    ⟨some 50, .load false 1 (.tmp 49), none, [49], []⟩,
    ⟨some 51, .foff 0 (.tmp 8), none, [8], []⟩,
    ⟨some 52, .load false 1 (.tmp 51), none, [51], []⟩,
    ⟨some 53, .bin .mul (.const (.int .i64 (32))) (.tmp 52), none, [52], []⟩,
    ⟨some 54, .bin .sub (.tmp 50) (.tmp 53), none, [50, 53], []⟩,
    ⟨some 9, .mv (.tmp 54), none, [54], []⟩] [1, 3, 6, 8, 9, 20, 21, 22])
(.seq (.reg false [⟨some 55, .mv (.tmp 9), none, [9], []⟩,
    ⟨some 56, .bin .lss (.tmp 55) (.const (.int .i64 (32))), none, [55], []⟩,
    ⟨some 57, .mv (.tmp 56), none, [56], []⟩,
    ⟨some 58, .foff 1 (.tmp 8), some (57, true), [8, 57], []⟩,
    ⟨some 59, .load false 1 (.tmp 58), some (57, true), [58, 57], []⟩,
    ⟨some 60, .mv (.tmp 9), some (57, true), [9, 57], []⟩,
    ⟨some 61, .slice 1 (.tmp 59) (some (.tmp 60)) none, some (57, true), [59, 60, 57], []⟩,
    ⟨some 62, .call 177 [(.tmp 61)], some (57, true), [61, 57], []⟩,
    ⟨some 63, .un .not (.tmp 62), some (57, true), [62, 57], []⟩,
    ⟨some 64, .pick (.tmp 57) (.tmp 63) (.const (.bool false)), none, [57, 63], []⟩] [1, 3, 6, 20, 21, 22, 64])
(.cond (.tmp 64)
(.seq (.reg false [⟨some 2, .mv (.const (.int .i64 (9))), none, [], []⟩] [2])
.ret)
.skip)))))))
(.reg false [⟨some 65, .bin .add (.tmp 22) (.const (.int .i64 (1))), none, [22], []⟩,
    ⟨some 22, .mv (.tmp 65), none, [65], []⟩] [1, 3, 6, 20, 21, 22])))))))
(.seq (.reg false [⟨some 2, .mv (.const (.int .i64 (0))), none, [], []⟩] [2])
.ret))))))
theorem ok_118 : FnOk Tryz.prog 118 66 ac_118 [.tmp 2] := ⟨Tryz.f118, Tryz.func118, by kernel_rfl, by kernel_rfl, by kernel_rfl, by kernel_rfl, by kernel_rfl⟩
def ac_119 : AC :=
(.seq (.reg false [⟨some 1, .box 115 (.tmp 0), none, [0], []⟩,
    ⟨some 2, .mv (.const (.pointer none)), none, [], []⟩] [1])
(.seq (.reg false [⟨some 6, .foff 0 (.tmp 1), none, [1], []⟩,
    ⟨some 7, .load false 1 (.tmp 6), none, [6], []⟩,
    ⟨some 8, .mkmap , none, [], []⟩,
    ⟨some 9, .build [(.int .i64 (0)), (.map none)] [(0, 1, (.tmp 7)), (1, 1, (.tmp 8))], none, [7, 8], []⟩,
    ⟨some 10, .box 275 (.tmp 9), none, [9], []⟩,
    ⟨some 3, .mv (.tmp 10), none, [10], []⟩] [1, 3])
(.seq (.seq (.reg false [⟨some 11, .foff 1 (.tmp 1), none, [1], []⟩,
    ⟨some 12, .load false 1 (.tmp 11), none, [11], []⟩,
    ⟨some 13, .len false (.tmp 12), none, [12], []⟩,
    ⟨some 14, .mv (.const (.int .i64 (0))), none, [], []⟩] [3, 12, 13, 14])
(.block 0 (.loop (.seq (.reg false [⟨some 15, .bin .lss (.tmp 14) (.tmp 13), none, [14, 13], []⟩] [3, 12, 13, 14, 15])
(.seq (.cond (.tmp 15)
.skip
(.exit 0))
(.seq (.block 1 (.seq (.reg false [⟨some 16, .idx 2 (.tmp 12) (.tmp 14), none, [12, 14], []⟩,
    ⟨some 17, .load true 2 (.tmp 16), none, [16], []⟩,
    ⟨some 5, .new 183 [(.int .i64 (0)), (.slice none 0 0)], none, [], []⟩,
    ⟨none, .store 2 (.tmp 5) (.tmp 17), none, [5, 17], []⟩] [3, 5, 12, 13, 14])
(.reg true [⟨some 18, .mv (.tmp 3), none, [3], []⟩,
    ⟨some 19, .nilc (.tmp 18), none, [18], [0]⟩,
    ⟨some 20, .foff 1 (.tmp 19), none, [19], [1, 0]⟩,
    ⟨some 21, .load false 1 (.tmp 20), none, [20], [2, 1, 0]⟩,
    ⟨some 22, .foff 0 (.tmp 5), none, [5], []⟩,
    ⟨some 23, .load false 1 (.tmp 22), none, [22], [4]⟩,
    ⟨some 24, .foff 1 (.tmp 5), none, [5], []⟩,
    ⟨some 25, .load false 1 (.tmp 24), none, [24], [6]⟩,
    ⟨some 26, .call 108 [(.tmp 25)], none, [25], [7, 6]⟩,
    ⟨none, .mupd (.tmp 21) (.tmp 23) (.tmp 26), none, [21, 23, 26], [3, 5, 8, 0, 1, 2, 4, 6, 7]⟩] [3, 12, 13, 14])))
(.reg false [⟨some 27, .bin .add (.tmp 14) (.const (.int .i64 (1))), none, [14], []⟩,
    ⟨some 14, .mv (.tmp 27), none, [27], []⟩] [3, 12, 13, 14])))))))
(.seq (.reg false [⟨some 28, .mv (.tmp 3), none, [3], []⟩,
    ⟨some 2, .mv (.tmp 28), none, [28], []⟩] [2])
.ret))))
theorem ok_119 : FnOk Tryz.prog 119 29 ac_119 [.tmp 2] := ⟨Tryz.f119, Tryz.func119, by kernel_rfl, by kernel_rfl, by kernel_rfl, by kernel_rfl, by kernel_rfl⟩
def ac_121 : AC :=
(.seq (.reg false [⟨some 4, .mv (.const (.int .i64 (0))), none, [], []⟩,
    ⟨some 5, .mv (.const (.int .i64 (0))), none, [], []⟩,
    ⟨some 6, .mv (.const (.int .i64 (0))), none, [], []⟩] [0, 1])
(.seq (.block 0 (.seq (.reg false [⟨some 9, .mv (.tmp 0), none, [0], []⟩,
    ⟨some 10, .mv (.tmp 1), none, [1], []⟩,
    ⟨some 11, .mm false (.tmp 9) (.tmp 10), none, [9, 10], []⟩,
    ⟨some 12, .bin .lss (.tmp 11) (.const (.int .i64 (0))), none, [11], []⟩,
    ⟨some 8, .mv (.tmp 12), none, [12], []⟩] [0, 1, 8])
(.cond (.tmp 8)
(.seq (.reg false [⟨some 4, .mv (.const (.int .i64 (0))), none, [], []⟩,
    ⟨some 5, .mv (.const (.int .i64 (0))), none, [], []⟩,
    ⟨some 6, .mv (.const (.int .i64 (4))), none, [], []⟩] [4, 5, 6])
.ret)
(.seq (.reg false [⟨some 14, .mv (.tmp 0), none, [0], []⟩,
    ⟨some 15, .bin .gtr (.tmp 14) (.const (.int .i64 (2432))), none, [14], []⟩,
    ⟨some 16, .mv (.tmp 15), none, [15], []⟩,
    ⟨some 17, .mv (.tmp 1), some (16, false), [1, 16], []⟩,
    ⟨some 18, .mv (.tmp 0), some (16, false), [0, 16], []⟩,
    ⟨some 19, .bin .sub (.const (.int .i64 (2432))) (.tmp 18), some (16, false), [18, 16], []⟩,
    ⟨some 20, .bin .gtr (.tmp 17) (.tmp 19), some (16, false), [17, 19, 16], []⟩,
    ⟨some 21, .pick (.tmp 16) (.const (.bool true)) (.tmp 20), none, [16, 20], []⟩,
    ⟨some 13, .mv (.tmp 21), none, [21], []⟩] [0, 1, 13])
(.cond (.tmp 13)
(.seq (.reg false [⟨some 4, .mv (.const (.int .i64 (0))), none, [], []⟩,
    ⟨some 5, .mv (.const (.int .i64 (0))), none, [], []⟩,
    ⟨some 6, .mv (.const (.int .i64 (107))), none, [], []⟩] [4, 5, 6])
.ret)
.skip)))))
(.seq (.reg false [⟨some 22, .mv (.tmp 0), none, [0], []⟩,
    ⟨some 23, .bin .quo (.tmp 22) (.const (.int .i64 (32))), none, [22], []⟩,
    ⟨some 7, .mv (.tmp 23), none, [23], []⟩] [0, 1, 7])
(.seq (.seq (.reg false [⟨some 24, .mv (.tmp 1), none, [1], []⟩,
    ⟨some 25, .bin .eql (.tmp 24) (.const (.int .i64 (0))), none, [24], []⟩] [0, 1, 7, 25])
(.cond (.tmp 25)
(.seq (.reg false [⟨some 26, .mv (.tmp 7), none, [7], []⟩,
    ⟨some 4, .mv (.tmp 26), none, [26], []⟩,
    ⟨some 5, .mv (.const (.int .i64 (0))), none, [], []⟩,
    ⟨some 6, .mv (.const (.int .i64 (0))), none, [], []⟩] [4, 5, 6])
.ret)
.skip))
(.seq (.reg false [⟨some 27, .mv (.tmp 7), none, [7], []⟩,
    ⟨some 28, .mv (.tmp 0), none, [0], []⟩,
    ⟨some 29, .mv (.tmp 1), none, [1], []⟩,
    ⟨some 30, .bin .add (.tmp 28) (.tmp 29), none, [28, 29], []⟩,
    ⟨some 31, .call 180 [(.tmp 30), (.const (.int .i64 (32)))], none, [30], []⟩,
    ⟨some 32, .mv (.tmp 7), none, [7], []⟩,
    ⟨some 33, .bin .sub (.tmp 31) (.tmp 32), none, [31, 32], []⟩,
    ⟨some 4, .mv (.tmp 27), none, [27], []⟩,
    ⟨some 5, .mv (.tmp 33), none, [33], []⟩,
    ⟨some 6, .mv (.const (.int .i64 (0))), none, [], []⟩] [4, 5, 6])
.ret)))))
theorem ok_121 : FnOk Tryz.prog 121 34 ac_121 [.tmp 4, .tmp 5, .tmp 6] := ⟨Tryz.f121, Tryz.func121, by kernel_rfl, by kernel_rfl, by kernel_rfl, by kernel_rfl, by kernel_rfl⟩
end Go.Proofs.YtonglhkiobibgaaGreatDoor
namespace Go.Proofs.YtonglhkiobibgaaGreatDoor
set_option maxRecDepth 100000
def ac_122 : AC :=
(.seq (.reg false [⟨some 9, .mv (.tmp 0), none, [0], []⟩,
    ⟨some 10, .mv (.tmp 0), none, [0], []⟩,
    ⟨some 11, .nilc (.tmp 10), none, [10], []⟩,
    ⟨some 12, .foff 0 (.tmp 11), none, [11], []⟩,
    ⟨some 13, .load false 1 (.tmp 12), none, [12], []⟩,
    ⟨some 14, .mv (.tmp 1), none, [1], []⟩,
    ⟨some 15, .mv (.tmp 2), none, [2], []⟩,
    ⟨some 16, .len false (.tmp 15), none, [15], []⟩,
    ⟨some 17, .bin .add (.tmp 14) (.tmp 16), none, [14, 16], []⟩,
    ⟨some 18, .mm true (.tmp 13) (.tmp 17), none, [13, 17], []⟩,
    ⟨some 19, .nilc (.tmp 9), none, [9], []⟩,
    ⟨some 20, .foff 0 (.tmp 19), none, [19], []⟩,
    ⟨none, .store 1 (.tmp 20) (.tmp 18), none, [20, 18], []⟩] [0, 1, 2])
(.block 0 (.loop (.seq (.seq (.reg false [⟨some 21, .mv (.tmp 2), none, [2], []⟩,
    ⟨some 22, .len false (.tmp 21), none, [21], []⟩,
    ⟨some 23, .bin .gtr (.tmp 22) (.const (.int .i64 (0))), none, [22], []⟩] [0, 1, 2, 23])
(.cond (.tmp 23)
.skip
(.exit 0)))
(.block 1 (.seq (.reg false [⟨some 24, .mv (.tmp 1), none, [1], []⟩,
    ⟨some 25, .bin .quo (.tmp 24) (.const (.int .i64 (32))), none, [24], []⟩,
    ⟨some 26, .mv (.tmp 1), none, [1], []⟩,
    ⟨some 27, .bin .rem (.tmp 26) (.const (.int .i64 (32))), none, [26], []⟩,
    ⟨some 6, .mv (.tmp 25), none, [25], []⟩,
    ⟨some 7, .mv (.tmp 27), none, [27], []⟩] [0, 1, 2, 6, 7])
(.seq (.seq (.reg false [⟨some 28, .mv (.tmp 0), none, [0], []⟩,
    ⟨some 29, .nilc (.tmp 28), none, [28], []⟩,
    ⟨some 30, .foff 1 (.tmp 29), none, [29], []⟩,
    ⟨some 31, .load false 1 (.tmp 30), none, [30], []⟩,
    ⟨some 32, .mv (.tmp 6), none, [6], []⟩,
    ⟨some 33, .mlook (.slice none 0 0) false (.tmp 31) (.tmp 32), none, [31, 32], []⟩,
    ⟨some 34, .isnil false (.slice none 0 0) (.tmp 33), none, [33], []⟩] [0, 1, 2, 6, 7, 34])
(.cond (.tmp 34)
(.reg true [⟨some 35, .mv (.tmp 0), none, [0], []⟩,
    ⟨some 36, .nilc (.tmp 35), none, [35], [0]⟩,
    ⟨some 37, .foff 1 (.tmp 36), none, [36], [1, 0]⟩,
    ⟨some 38, .load false 1 (.tmp 37), none, [37], [2, 1, 0]⟩,
    ⟨some 39, .mv (.tmp 6), none, [6], []⟩,
    ⟨some 40, .mksl 5 1 1 [(.int .u8 (0))] (.const (.int .i64 (32))) (.const (.int .i64 (32))), none, [], []⟩,
    ⟨none, .mupd (.tmp 38) (.tmp 39) (.tmp 40), none, [38, 39, 40], [3, 4, 5, 0, 1, 2]⟩] [0, 1, 2, 6, 7])
.skip))
(.seq (.reg false [⟨some 41, .mv (.tmp 0), none, [0], []⟩,
    ⟨some 42, .nilc (.tmp 41), none, [41], []⟩,
    ⟨some 43, .foff 1 (.tmp 42), none, [42], []⟩,
    ⟨some 44, .load false 1 (.tmp 43), none, [43], []⟩,
    ⟨some 45, .mv (.tmp 6), none, [6], []⟩,
    ⟨some 46, .mlook (.slice none 0 0) false (.tmp 44) (.tmp 45), none, [44, 45], []⟩,
    ⟨some 47, .mv (.tmp 7), none, [7], []⟩,
    ⟨some 48, .slice 1 (.tmp 46) (some (.tmp 47)) none, none, [46, 47], []⟩,
    ⟨some 49, .mv (.tmp 2), none, [2], []⟩,
    ⟨some 50, .copy (.tmp 48) (.tmp 49), none, [48, 49], []⟩,
    ⟨some 8, .mv (.tmp 50), none, [50], []⟩] [0, 1, 2, 8])
(.seq (.reg false [⟨some 51, .mv (.tmp 2), none, [2], []⟩,
    ⟨some 52, .mv (.tmp 8), none, [8], []⟩,
    ⟨some 53, .slice 1 (.tmp 51) (some (.tmp 52)) none, none, [51, 52], []⟩,
    ⟨some 2, .mv (.tmp 53), none, [53], []⟩] [0, 1, 2, 8])
(.reg false [⟨some 54, .mv (.tmp 1), none, [1], []⟩,
    ⟨some 55, .mv (.tmp 8), none, [8], []⟩,
    ⟨some 56, .bin .add (.tmp 54) (.tmp 55), none, [54, 55], []⟩,
    ⟨some 1, .mv (.tmp 56), none, [56], []⟩] [0, 1, 2]))))))))))
theorem ok_122 : FnOk Tryz.prog 122 57 ac_122 [] := ⟨Tryz.f122, Tryz.func122, by kernel_rfl, by kernel_rfl, by kernel_rfl, by kernel_rfl, by kernel_rfl⟩
def ac_127 : AC :=
(.seq (.reg false [⟨some 2, .mv (.const (.bool false)), none, [], []⟩] [0])
(.seq (.reg false [⟨some 3, .mv (.tmp 0), none, [0], []⟩,
    ⟨some 4, .mv (.tmp 0), none, [0], []⟩,
    ⟨some 5, .bin .neq (.tmp 3) (.tmp 4), none, [3, 4], []⟩,
    ⟨some 2, .mv (.tmp 5), none, [5], []⟩] [2])
.ret))
theorem ok_127 : FnOk Tryz.prog 127 6 ac_127 [.tmp 2] := ⟨Tryz.f127, Tryz.func127, by kernel_rfl, by kernel_rfl, by kernel_rfl, by kernel_rfl, by kernel_rfl⟩
def ac_128 : AC :=
(.seq (.reg false [⟨some 2, .mv (.const (.int .i64 (0))), none, [], []⟩] [0])
(.seq (.seq (.reg false [⟨some 5, .mv (.tmp 0), none, [0], []⟩,
    ⟨some 6, .len false (.tmp 5), none, [5], []⟩,
    ⟨some 7, .bin .gtr (.tmp 6) (.const (.int .i64 (63))), none, [6], []⟩] [0, 7])
(.cond (.tmp 7)
(.seq (.reg false [⟨some 2, .mv (.const (.int .i64 (9))), none, [], []⟩] [2])
.ret)
.skip))
(.seq (.seq (.reg false [⟨some 8, .mv (.tmp 0), none, [0], []⟩,
    ⟨some 9, .len false (.tmp 8), none, [8], []⟩,
    ⟨some 10, .mv (.const (.int .i64 (0))), none, [], []⟩] [0, 8, 9, 10])
(.block 0 (.loop (.seq (.reg false [⟨some 11, .bin .lss (.tmp 10) (.tmp 9), none, [10, 9], []⟩] [0, 8, 9, 10, 11])
(.seq (.cond (.tmp 11)
.skip
(.exit 0))
(.seq (.block 1 (.seq (.reg false [⟨some 12, .mv (.tmp 10), none, [10], []⟩,
    ⟨some 13, .idx 2 (.tmp 8) (.tmp 10), none, [8, 10], []⟩,
    ⟨some 14, .load true 2 (.tmp 13), none, [13], []⟩,
    ⟨some 4, .new 134 [(.string (ByteArray.mk #[])), (.int .i64 (0))], none, [], []⟩,
    ⟨some 3, .mv (.tmp 12), none, [12], []⟩,
    ⟨none, .store 2 (.tmp 4) (.tmp 14), none, [4, 14], []⟩] [0, 3, 4, 8, 9, 10])
(.seq (.reg true [⟨some 15, .load true 2 (.tmp 4), none, [4], []⟩,
    ⟨some 16, .call 186 [(.tmp 15)], none, [15], [0]⟩,
    ⟨some 17, .un .not (.tmp 16), none, [16], [1, 0]⟩,
    ⟨some 18, .mv (.tmp 17), none, [17], [2, 1, 0]⟩,
    ⟨some 19, .mv (.tmp 3), some (18, false), [3, 18], [3, 2, 1, 0]⟩,
    ⟨some 20, .bin .gtr (.tmp 19) (.const (.int .i64 (0))), some (18, false), [19, 18], [4, 3, 2, 1, 0]⟩,
    ⟨some 21, .mv (.tmp 20), some (18, false), [20, 18], [5, 3, 4, 2, 1, 0]⟩,
    ⟨some 22, .mv (.tmp 0), some (21, true), [0, 21], [6, 5, 3, 4, 2, 1, 0]⟩,
    ⟨some 23, .mv (.tmp 3), some (21, true), [3, 21], [6, 5, 3, 4, 2, 1, 0]⟩,
    ⟨some 24, .bin .sub (.tmp 23) (.const (.int .i64 (1))), some (21, true), [23, 21], [8, 6, 5, 3, 4, 2, 1, 0]⟩,
    ⟨some 25, .idx 2 (.tmp 22) (.tmp 24), some (21, true), [22, 24, 21], [7, 9, 6, 5, 3, 4, 2, 1, 0, 8]⟩,
    ⟨some 26, .foff 0 (.tmp 25), some (21, true), [25, 21], [10, 6, 7, 9, 5, 3, 4, 2, 1, 0, 8]⟩,
    ⟨some 27, .load false 1 (.tmp 26), some (21, true), [26, 21], [11, 6, 10, 7, 9, 5, 3, 4, 2, 1, 0, 8]⟩,
    ⟨some 28, .foff 0 (.tmp 4), some (21, true), [4, 21], [6, 5, 3, 4, 2, 1, 0]⟩,
    ⟨some 29, .load false 1 (.tmp 28), some (21, true), [28, 21], [13, 6, 5, 3, 4, 2, 1, 0]⟩,
    ⟨some 30, .bin .geq (.tmp 27) (.tmp 29), some (21, true), [27, 29, 21], [12, 14, 6, 11, 10, 7, 9, 5, 3, 4, 2, 1, 0, 8, 13]⟩,
    ⟨some 31, .pick (.tmp 21) (.tmp 30) (.const (.bool false)), some (18, false), [21, 30, 18], [6, 15, 3, 5, 4, 2, 1, 0, 12, 14, 11, 10, 7, 9, 8, 13]⟩,
    ⟨some 32, .pick (.tmp 18) (.const (.bool true)) (.tmp 31), none, [18, 31], [3, 16, 2, 1, 0, 6, 15, 5, 4, 12, 14, 11, 10, 7, 9, 8, 13]⟩] [0, 8, 9, 10, 32])
(.cond (.tmp 32)
(.seq (.reg false [⟨some 2, .mv (.const (.int .i64 (9))), none, [], []⟩] [2])
.ret)
.skip))))
(.reg false [⟨some 33, .bin .add (.tmp 10) (.const (.int .i64 (1))), none, [10], []⟩,
    ⟨some 10, .mv (.tmp 33), none, [33], []⟩] [0, 8, 9, 10])))))))
(.seq (.reg false [⟨some 2, .mv (.const (.int .i64 (0))), none, [], []⟩] [2])
.ret))))
theorem ok_128 : FnOk Tryz.prog 128 34 ac_128 [.tmp 2] := ⟨Tryz.f128, Tryz.func128, by kernel_rfl, by kernel_rfl, by kernel_rfl, by kernel_rfl, by kernel_rfl⟩
def ac_129 : AC :=
(.seq (.reg false [⟨some 2, .mv (.const (.slice none 0 0)), none, [], []⟩] [0])
(.seq (.seq (.reg false [⟨some 3, .mv (.tmp 0), none, [0], []⟩,
    ⟨some 4, .isnil false (.slice none 0 0) (.tmp 3), none, [3], []⟩] [0, 4])
(.cond (.tmp 4)
(.seq (.reg false [⟨some 2, .mv (.const (.slice none 0 0)), none, [], []⟩] [2])
.ret)
.skip))
(.seq (.reg false [⟨some 5, .bslice 118 6 0 [] [], none, [], []⟩,
    ⟨some 6, .mv (.tmp 0), none, [0], []⟩,
    ⟨some 7, .append 118 6 80 (.tmp 5) (.tmp 6), none, [5, 6], []⟩,
    ⟨some 2, .mv (.tmp 7), none, [7], []⟩] [2])
.ret)))
theorem ok_129 : FnOk Tryz.prog 129 8 ac_129 [.tmp 2] := ⟨Tryz.f129, Tryz.func129, by kernel_rfl, by kernel_rfl, by kernel_rfl, by kernel_rfl, by kernel_rfl⟩
def ac_130 : AC :=
(.seq (.reg false [⟨some 2, .mv (.const (.slice none 0 0)), none, [], []⟩] [0])
(.seq (.seq (.reg false [⟨some 3, .mv (.tmp 0), none, [0], []⟩,
    ⟨some 4, .isnil false (.slice none 0 0) (.tmp 3), none, [3], []⟩] [0, 4])
(.cond (.tmp 4)
(.seq (.reg false [⟨some 2, .mv (.const (.slice none 0 0)), none, [], []⟩] [2])
.ret)
.skip))
(.seq (.reg false [⟨some 5, .bslice 134 2 0 [] [], none, [], []⟩,
    ⟨some 6, .mv (.tmp 0), none, [0], []⟩,
    ⟨some 7, .append 134 2 24 (.tmp 5) (.tmp 6), none, [5, 6], []⟩,
    ⟨some 2, .mv (.tmp 7), none, [7], []⟩] [2])
.ret)))
theorem ok_130 : FnOk Tryz.prog 130 8 ac_130 [.tmp 2] := ⟨Tryz.f130, Tryz.func130, by kernel_rfl, by kernel_rfl, by kernel_rfl, by kernel_rfl, by kernel_rfl⟩
end Go.Proofs.YtonglhkiobibgaaGreatDoor
namespace Go.Proofs.YtonglhkiobibgaaGreatDoor
set_option maxRecDepth 100000
def ac_168 : AC :=
(.seq (.reg false [⟨some 4, .mv (.const (.string (ByteArray.mk #[]))), none, [], []⟩,
    ⟨some 5, .mv (.const (.bool false)), none, [], []⟩] [0, 1])
(.seq (.reg false [⟨some 6, .mv (.tmp 0), none, [0], []⟩,
    ⟨some 7, .mv (.tmp 1), none, [1], []⟩,
    ⟨some 8, .call 217 [(.tmp 6), (.tmp 7)], none, [6, 7], []⟩,
    ⟨some 9, .ext 0 (.tmp 8), none, [8], []⟩,
    ⟨some 10, .ext 1 (.tmp 8), none, [8], []⟩,
    ⟨some 4, .mv (.tmp 9), none, [9], []⟩,
    ⟨some 5, .mv (.tmp 10), none, [10], []⟩] [4, 5])
.ret))
theorem ok_168 : FnOk Tryz.prog 168 11 ac_168 [.tmp 4, .tmp 5] := ⟨Tryz.f168, Tryz.func168, by kernel_rfl, by kernel_rfl, by kernel_rfl, by kernel_rfl, by kernel_rfl⟩
def ac_169 : AC :=
(.seq (.reg false [⟨some 4, .mv (.const .nilFunc), none, [], []⟩] [0, 1])
(.seq (.reg false [⟨some 5, .mv (.tmp 0), none, [0], []⟩,
    ⟨some 6, .mv (.tmp 1), none, [1], []⟩,
    ⟨some 7, .call 218 [(.tmp 5), (.tmp 6), (.const (.int .i64 (0)))], none, [5, 6], []⟩,
    ⟨some 4, .mv (.tmp 7), none, [7], []⟩] [4])
.ret))
theorem ok_169 : FnOk Tryz.prog 169 8 ac_169 [.tmp 4] := ⟨Tryz.f169, Tryz.func169, by kernel_rfl, by kernel_rfl, by kernel_rfl, by kernel_rfl, by kernel_rfl⟩
def ac_170 : AC :=
(.seq (.reg false [⟨some 2, .mv (.const (.int .i64 (0))), none, [], []⟩] [0])
(.seq (.seq (.reg false [⟨some 6, .mv (.tmp 0), none, [0], []⟩,
    ⟨some 7, .len false (.tmp 6), none, [6], []⟩,
    ⟨some 8, .mv (.const (.int .i64 (0))), none, [], []⟩] [0, 6, 7, 8])
(.block 0 (.loop (.seq (.reg false [⟨some 9, .bin .lss (.tmp 8) (.tmp 7), none, [8, 7], []⟩] [0, 6, 7, 8, 9])
(.seq (.cond (.tmp 9)
.skip
(.exit 0))
(.seq (.block 1 (.seq (.reg false [⟨some 10, .idx 1 (.tmp 6) (.tmp 8), none, [6, 8], []⟩,
    ⟨some 11, .load false 1 (.tmp 10), none, [10], []⟩,
    ⟨some 4, .mv (.tmp 11), none, [11], []⟩] [0, 4, 6, 7, 8])
(.seq (.reg false [⟨some 12, .mv (.tmp 4), none, [4], []⟩,
    ⟨some 13, .call 219 [(.tmp 12)], none, [12], []⟩,
    ⟨some 5, .mv (.tmp 13), none, [13], []⟩] [0, 5, 6, 7, 8])
(.seq (.reg false [⟨some 14, .mv (.tmp 5), none, [5], []⟩,
    ⟨some 15, .bin .neq (.tmp 14) (.const (.int .i64 (0))), none, [14], []⟩] [0, 5, 6, 7, 8, 15])
(.cond (.tmp 15)
(.seq (.reg false [⟨some 16, .mv (.tmp 5), none, [5], []⟩,
    ⟨some 2, .mv (.tmp 16), none, [16], []⟩] [2])
.ret)
.skip)))))
(.reg false [⟨some 17, .bin .add (.tmp 8) (.const (.int .i64 (1))), none, [8], []⟩,
    ⟨some 8, .mv (.tmp 17), none, [17], []⟩] [0, 6, 7, 8])))))))
(.seq (.seq (.reg false [⟨some 18, .mv (.tmp 0), none, [0], []⟩,
    ⟨some 19, .len false (.tmp 18), none, [18], []⟩,
    ⟨some 20, .bin .gtr (.tmp 19) (.const (.int .i64 (8))), none, [19], []⟩] [20])
(.cond (.tmp 20)
(.seq (.reg false [⟨some 2, .mv (.const (.int .i64 (5))), none, [], []⟩] [2])
.ret)
.skip))
(.seq (.reg false [⟨some 2, .mv (.const (.int .i64 (0))), none, [], []⟩] [2])
.ret))))
theorem ok_170 : FnOk Tryz.prog 170 21 ac_170 [.tmp 2] := ⟨Tryz.f170, Tryz.func170, by kernel_rfl, by kernel_rfl, by kernel_rfl, by kernel_rfl, by kernel_rfl⟩
def ac_171 : AC :=
(.seq (.reg false [⟨some 2, .box 115 (.tmp 0), none, [0], []⟩,
    ⟨some 4, .new 115 [(.int .i64 (0)), (.slice none 0 0)], none, [], []⟩,
    ⟨some 5, .mv (.const (.int .i64 (0))), none, [], []⟩] [1, 2, 4])
(.seq (.seq (.reg false [⟨some 11, .load true 2 (.tmp 2), none, [2], []⟩,
    ⟨some 12, .call 118 [(.tmp 11)], none, [11], []⟩,
    ⟨some 6, .mv (.tmp 12), none, [12], []⟩] [1, 2, 4, 6])
(.seq (.reg false [⟨some 13, .mv (.tmp 6), none, [6], []⟩,
    ⟨some 14, .bin .neq (.tmp 13) (.const (.int .i64 (0))), none, [13], []⟩] [1, 2, 4, 6, 14])
(.cond (.tmp 14)
(.seq (.reg false [⟨some 15, .build [(.int .i64 (0)), (.slice none 0 0)] [], none, [], []⟩,
    ⟨some 16, .mv (.tmp 6), none, [6], []⟩,
    ⟨none, .store 2 (.tmp 4) (.tmp 15), none, [4, 15], []⟩,
    ⟨some 5, .mv (.tmp 16), none, [16], []⟩] [4, 5])
.ret)
.skip)))
(.seq (.seq (.reg false [⟨some 18, .mv (.tmp 1), none, [1], []⟩,
    ⟨some 19, .call 176 [(.tmp 18)], none, [18], []⟩,
    ⟨some 17, .mv (.tmp 19), none, [19], []⟩,
    ⟨some 20, .ext 0 (.tmp 17), none, [17], []⟩,
    ⟨some 21, .ext 1 (.tmp 17), none, [17], []⟩,
    ⟨some 22, .ext 2 (.tmp 17), none, [17], []⟩,
    ⟨some 7, .mv (.tmp 20), none, [20], []⟩,
    ⟨some 8, .mv (.tmp 21), none, [21], []⟩,
    ⟨some 9, .mv (.tmp 22), none, [22], []⟩] [1, 2, 4, 9])
(.seq (.reg false [⟨some 23, .mv (.tmp 9), none, [9], []⟩,
    ⟨some 24, .bin .neq (.tmp 23) (.const (.int .i64 (0))), none, [23], []⟩] [1, 2, 4, 9, 24])
(.cond (.tmp 24)
(.seq (.reg false [⟨some 25, .build [(.int .i64 (0)), (.slice none 0 0)] [], none, [], []⟩,
    ⟨some 26, .mv (.tmp 9), none, [9], []⟩,
    ⟨none, .store 2 (.tmp 4) (.tmp 25), none, [4, 25], []⟩,
    ⟨some 5, .mv (.tmp 26), none, [26], []⟩] [4, 5])
.ret)
.skip)))
(.seq (.reg false [⟨some 27, .load true 2 (.tmp 2), none, [2], []⟩,
    ⟨some 28, .call 119 [(.tmp 27)], none, [27], []⟩,
    ⟨some 10, .mv (.tmp 28), none, [28], []⟩] [1, 4, 10])
(.seq (.reg false [⟨some 29, .mv (.tmp 10), none, [10], []⟩,
    ⟨some 30, .mv (.tmp 1), none, [1], []⟩,
    ⟨some 31, .call 220 [(.tmp 29), (.tmp 30)], none, [29, 30], []⟩] [4, 10])
(.seq (.reg false [⟨some 32, .mv (.tmp 10), none, [10], []⟩,
    ⟨some 33, .call 120 [(.tmp 32)], none, [32], []⟩,
    ⟨none, .store 2 (.tmp 4) (.tmp 33), none, [4, 33], []⟩,
    ⟨some 5, .mv (.const (.int .i64 (0))), none, [], []⟩] [4, 5])
.ret))))))
theorem ok_171 : FnOk Tryz.prog 171 34 ac_171 [.cell 4 true 2, .tmp 5] := ⟨Tryz.f171, Tryz.func171, by kernel_rfl, by kernel_rfl, by kernel_rfl, by kernel_rfl, by kernel_rfl⟩
def ac_172 : AC :=
(.seq (.reg false [⟨some 4, .mv (.const (.int .i64 (0))), none, [], []⟩,
    ⟨some 5, .mv (.const (.bool false)), none, [], []⟩,
    ⟨some 6, .mv (.const (.int .i64 (0))), none, [], []⟩] [0, 1])
(.seq (.seq (.reg false [⟨some 10, .mv (.tmp 0), none, [0], []⟩,
    ⟨some 11, .call 128 [(.tmp 10)], none, [10], []⟩,
    ⟨some 7, .mv (.tmp 11), none, [11], []⟩] [0, 1, 7])
(.seq (.reg false [⟨some 12, .mv (.tmp 7), none, [7], []⟩,
    ⟨some 13, .bin .neq (.tmp 12) (.const (.int .i64 (0))), none, [12], []⟩] [0, 1, 7, 13])
(.cond (.tmp 13)
(.seq (.reg false [⟨some 14, .mv (.tmp 7), none, [7], []⟩,
    ⟨some 4, .mv (.const (.int .i64 (0))), none, [], []⟩,
    ⟨some 5, .mv (.const (.bool false)), none, [], []⟩,
    ⟨some 6, .mv (.tmp 14), none, [14], []⟩] [4, 5, 6])
.ret)
.skip)))
(.seq (.reg false [⟨some 16, .mv (.tmp 0), none, [0], []⟩,
    ⟨some 17, .mv (.tmp 1), none, [1], []⟩,
    ⟨some 18, .call 221 [(.tmp 16), (.tmp 17)], none, [16, 17], []⟩,
    ⟨some 15, .mv (.tmp 18), none, [18], []⟩,
    ⟨some 19, .ext 0 (.tmp 15), none, [15], []⟩,
    ⟨some 20, .ext 1 (.tmp 15), none, [15], []⟩,
    ⟨some 8, .mv (.tmp 19), none, [19], []⟩,
    ⟨some 9, .mv (.tmp 20), none, [20], []⟩] [0, 8, 9])
(.seq (.seq (.reg false [⟨some 21, .mv (.tmp 9), none, [9], []⟩,
    ⟨some 22, .un .not (.tmp 21), none, [21], []⟩] [0, 8, 22])
(.cond (.tmp 22)
(.seq (.reg false [⟨some 4, .mv (.const (.int .i64 (0))), none, [], []⟩,
    ⟨some 5, .mv (.const (.bool false)), none, [], []⟩,
    ⟨some 6, .mv (.const (.int .i64 (0))), none, [], []⟩] [4, 5, 6])
.ret)
.skip))
(.seq (.reg false [⟨some 23, .mv (.tmp 0), none, [0], []⟩,
    ⟨some 24, .mv (.tmp 8), none, [8], []⟩,
    ⟨some 25, .idx 2 (.tmp 23) (.tmp 24), none, [23, 24], []⟩,
    ⟨some 26, .foff 1 (.tmp 25), none, [25], []⟩,
    ⟨some 27, .load false 1 (.tmp 26), none, [26], []⟩,
    ⟨some 4, .mv (.tmp 27), none, [27], []⟩,
    ⟨some 5, .mv (.const (.bool true)), none, [], []⟩,
    ⟨some 6, .mv (.const (.int .i64 (0))), none, [], []⟩] [4, 5, 6])
.ret)))))
theorem ok_172 : FnOk Tryz.prog 172 28 ac_172 [.tmp 4, .tmp 5, .tmp 6] := ⟨Tryz.f172, Tryz.func172, by kernel_rfl, by kernel_rfl, by kernel_rfl, by kernel_rfl, by kernel_rfl⟩
def ac_173 : AC :=
(.seq (.reg false [⟨some 3, .box 134 (.tmp 1), none, [1], []⟩,
    ⟨some 4, .mv (.const (.slice none 0 0)), none, [], []⟩,
    ⟨some 5, .mv (.const (.int .i64 (0))), none, [], []⟩] [0, 3])
(.seq (.seq (.reg false [⟨some 10, .mv (.tmp 0), none, [0], []⟩,
    ⟨some 11, .call 128 [(.tmp 10)], none, [10], []⟩,
    ⟨some 6, .mv (.tmp 11), none, [11], []⟩] [0, 3, 6])
(.seq (.reg false [⟨some 12, .mv (.tmp 6), none, [6], []⟩,
    ⟨some 13, .bin .neq (.tmp 12) (.const (.int .i64 (0))), none, [12], []⟩] [0, 3, 6, 13])
(.cond (.tmp 13)
(.seq (.reg false [⟨some 14, .mv (.tmp 6), none, [6], []⟩,
    ⟨some 4, .mv (.const (.slice none 0 0)), none, [], []⟩,
    ⟨some 5, .mv (.tmp 14), none, [14], []⟩] [4, 5])
.ret)
.skip)))
(.seq (.seq (.reg false [⟨some 15, .foff 0 (.tmp 3), none, [3], []⟩,
    ⟨some 16, .load false 1 (.tmp 15), none, [15], []⟩,
    ⟨some 17, .call 219 [(.tmp 16)], none, [16], []⟩,
    ⟨some 7, .mv (.tmp 17), none, [17], []⟩] [0, 3, 7])
(.seq (.reg false [⟨some 18, .mv (.tmp 7), none, [7], []⟩,
    ⟨some 19, .bin .neq (.tmp 18) (.const (.int .i64 (0))), none, [18], []⟩] [0, 3, 7, 19])
(.cond (.tmp 19)
(.seq (.reg false [⟨some 20, .mv (.tmp 7), none, [7], []⟩,
    ⟨some 4, .mv (.const (.slice none 0 0)), none, [], []⟩,
    ⟨some 5, .mv (.tmp 20), none, [20], []⟩] [4, 5])
.ret)
.skip)))
(.seq (.reg false [⟨some 22, .mv (.tmp 0), none, [0], []⟩,
    ⟨some 23, .foff 0 (.tmp 3), none, [3], []⟩,
    ⟨some 24, .load false 1 (.tmp 23), none, [23], []⟩,
    ⟨some 25, .call 221 [(.tmp 22), (.tmp 24)], none, [22, 24], []⟩,
    ⟨some 21, .mv (.tmp 25), none, [25], []⟩,
    ⟨some 26, .ext 0 (.tmp 21), none, [21], []⟩,
    ⟨some 27, .ext 1 (.tmp 21), none, [21], []⟩,
    ⟨some 8, .mv (.tmp 26), none, [26], []⟩,
    ⟨some 9, .mv (.tmp 27), none, [27], []⟩] [0, 3, 8, 9])
(.seq (.block 0 (.seq (.reg false [⟨some 29, .load true 2 (.tmp 3), none, [3], []⟩,
    ⟨some 30, .call 186 [(.tmp 29)], none, [29], []⟩,
    ⟨some 31, .un .not (.tmp 30), none, [30], []⟩,
    ⟨some 28, .mv (.tmp 31), none, [31], []⟩] [0, 3, 8, 9, 28])
(.cond (.tmp 28)
(.seq (.reg false [⟨some 4, .mv (.const (.slice none 0 0)), none, [], []⟩,
    ⟨some 5, .mv (.const (.int .i64 (4))), none, [], []⟩] [4, 5])
.ret)
(.seq (.reg false [⟨some 33, .mv (.tmp 9), none, [9], []⟩,
    ⟨some 32, .mv (.tmp 33), none, [33], []⟩] [0, 3, 8, 32])
(.cond (.tmp 32)
(.seq (.reg false [⟨some 4, .mv (.const (.slice none 0 0)), none, [], []⟩,
    ⟨some 5, .mv (.const (.int .i64 (102))), none, [], []⟩] [4, 5])
.ret)
(.seq (.reg false [⟨some 35, .mv (.tmp 0), none, [0], []⟩,
    ⟨some 36, .len false (.tmp 35), none, [35], []⟩,
    ⟨some 37, .bin .geq (.tmp 36) (.const (.int .i64 (63))), none, [36], []⟩,
    ⟨some 34, .mv (.tmp 37), none, [37], []⟩] [0, 3, 8, 34])
(.cond (.tmp 34)
(.seq (.reg false [⟨some 4, .mv (.const (.slice none 0 0)), none, [], []⟩,
    ⟨some 5, .mv (.const (.int .i64 (51))), none, [], []⟩] [4, 5])
.ret)
.skip)))))))
(.seq (.reg true [⟨some 38, .mv (.tmp 0), none, [0], []⟩,
    ⟨some 39, .call 130 [(.tmp 38)], none, [38], [0]⟩,
    ⟨some 40, .mv (.tmp 8), none, [8], []⟩,
    ⟨some 41, .load true 2 (.tmp 3), none, [3], []⟩,
    ⟨some 42, .bslice 134 2 1 [(.string (ByteArray.mk #[])), (.int .i64 (0))] [(0, 2, (.tmp 41))], none, [41], [3]⟩,
    ⟨some 43, .call 222 [(.tmp 39), (.tmp 40), (.tmp 42)], none, [39, 40, 42], [1, 2, 4, 0, 3]⟩,
    ⟨some 4, .mv (.tmp 43), none, [43], [5, 0, 1, 2, 3, 4]⟩,
    ⟨some 5, .mv (.const (.int .i64 (0))), none, [], [6, 0, 1, 2, 3, 4, 5]⟩] [4, 5])
.ret))))))
theorem ok_173 : FnOk Tryz.prog 173 44 ac_173 [.tmp 4, .tmp 5] := ⟨Tryz.f173, Tryz.func173, by kernel_rfl, by kernel_rfl, by kernel_rfl, by kernel_rfl, by kernel_rfl⟩
def ac_174 : AC :=
(.seq (.reg false [⟨some 4, .mv (.const (.int .i64 (0))), none, [], []⟩,
    ⟨some 5, .mv (.const (.bool false)), none, [], []⟩] [0, 1])
(.seq (.reg false [⟨some 6, .mv (.tmp 0), none, [0], []⟩,
    ⟨some 7, .nilc (.tmp 6), none, [6], []⟩,
    ⟨some 8, .foff 0 (.tmp 7), none, [7], []⟩,
    ⟨some 9, .load false 1 (.tmp 8), none, [8], []⟩,
    ⟨some 10, .mv (.tmp 1), none, [1], []⟩,
    ⟨some 11, .call 83 [(.tmp 9), (.tmp 10), (.func 223)], none, [9, 10], []⟩,
    ⟨some 12, .ext 0 (.tmp 11), none, [11], []⟩,
    ⟨some 13, .ext 1 (.tmp 11), none, [11], []⟩,
    ⟨some 4, .mv (.tmp 12), none, [12], []⟩,
    ⟨some 5, .mv (.tmp 13), none, [13], []⟩] [4, 5])
.ret))
theorem ok_174 : FnOk Tryz.prog 174 14 ac_174 [.tmp 4, .tmp 5] := ⟨Tryz.f174, Tryz.func174, by kernel_rfl, by kernel_rfl, by kernel_rfl, by kernel_rfl, by kernel_rfl⟩
def ac_176 : AC :=
(.seq (.reg false [⟨some 2, .mv (.const (.int .i64 (0))), none, [], []⟩,
    ⟨some 3, .mv (.const (.int .i64 (0))), none, [], []⟩,
    ⟨some 4, .mv (.const (.int .i64 (0))), none, [], []⟩] [0])
(.seq (.seq (.reg false [⟨some 7, .mv (.tmp 0), none, [0], []⟩,
    ⟨some 8, .bin .lss (.tmp 7) (.const (.int .i64 (0))), none, [7], []⟩] [0, 8])
(.cond (.tmp 8)
(.seq (.reg false [⟨some 2, .mv (.const (.int .i64 (0))), none, [], []⟩,
    ⟨some 3, .mv (.const (.int .i64 (0))), none, [], []⟩,
    ⟨some 4, .mv (.const (.int .i64 (4))), none, [], []⟩] [2, 3, 4])
.ret)
.skip))
(.seq (.seq (.reg false [⟨some 9, .mv (.tmp 0), none, [0], []⟩,
    ⟨some 10, .bin .gtr (.tmp 9) (.const (.int .i64 (2432))), none, [9], []⟩] [0, 10])
(.cond (.tmp 10)
(.seq (.reg false [⟨some 2, .mv (.const (.int .i64 (0))), none, [], []⟩,
    ⟨some 3, .mv (.const (.int .i64 (0))), none, [], []⟩,
    ⟨some 4, .mv (.const (.int .i64 (107))), none, [], []⟩] [2, 3, 4])
.ret)
.skip))
(.seq (.reg false [⟨some 11, .mv (.tmp 0), none, [0], []⟩,
    ⟨some 12, .call 180 [(.tmp 11), (.const (.int .i64 (32)))], none, [11], []⟩,
    ⟨some 5, .mv (.tmp 12), none, [12], []⟩,
    ⟨some 6, .mv (.const (.int .i64 (0))), none, [], []⟩] [5, 6])
(.seq (.block 0 (.seq (.block 2 (.seq (.block 1 (.seq (.seq (.seq (.reg false [⟨some 14, .mv (.tmp 5), none, [5], []⟩,
    ⟨some 15, .bin .gtr (.tmp 14) (.const (.int .i64 (12))), none, [14], []⟩,
    ⟨some 13, .mv (.tmp 15), none, [15], []⟩] [5, 6, 13])
(.cond (.tmp 13)
(.exit 1)
.skip))
(.seq (.reg false [⟨some 17, .mv (.tmp 5), none, [5], []⟩,
    ⟨some 18, .bin .gtr (.tmp 17) (.const (.int .i64 (4))), none, [17], []⟩,
    ⟨some 16, .mv (.tmp 18), none, [18], []⟩] [5, 6, 16])
(.cond (.tmp 16)
(.exit 2)
.skip)))
(.exit 0)))
(.reg false [⟨some 19, .mv (.tmp 5), none, [5], []⟩,
    ⟨some 20, .bin .sub (.tmp 19) (.const (.int .i64 (12))), none, [19], []⟩,
    ⟨some 21, .call 180 [(.tmp 20), (.const (.int .i64 (8)))], none, [20], []⟩,
    ⟨some 22, .bin .add (.const (.int .i64 (1))) (.tmp 21), none, [21], []⟩,
    ⟨some 6, .mv (.tmp 22), none, [22], []⟩] [5, 6])))
(.seq (.reg false [⟨some 23, .mv (.tmp 6), none, [6], []⟩,
    ⟨some 24, .bin .add (.tmp 23) (.const (.int .i64 (1))), none, [23], []⟩,
    ⟨some 6, .mv (.tmp 24), none, [24], []⟩] [5, 6])
(.exit 0))))
(.seq (.reg false [⟨some 25, .mv (.tmp 5), none, [5], []⟩,
    ⟨some 26, .mv (.tmp 6), none, [6], []⟩,
    ⟨some 2, .mv (.tmp 25), none, [25], []⟩,
    ⟨some 3, .mv (.tmp 26), none, [26], []⟩,
    ⟨some 4, .mv (.const (.int .i64 (0))), none, [], []⟩] [2, 3, 4])
.ret))))))
theorem ok_176 : FnOk Tryz.prog 176 27 ac_176 [.tmp 2, .tmp 3, .tmp 4] := ⟨Tryz.f176, Tryz.func176, by kernel_rfl, by kernel_rfl, by kernel_rfl, by kernel_rfl, by kernel_rfl⟩
def ac_177 : AC :=
(.seq (.reg false [⟨some 2, .mv (.const (.bool false)), none, [], []⟩] [0])
(.seq (.reg false [⟨some 3, .mv (.tmp 0), none, [0], []⟩,
    ⟨some 4, .call 224 [(.tmp 3), (.const (.string (ByteArray.mk #[0])))], none, [3], []⟩,
    ⟨some 5, .len false (.tmp 4), none, [4], []⟩,
    ⟨some 6, .bin .eql (.tmp 5) (.const (.int .i64 (0))), none, [5], []⟩,
    ⟨some 2, .mv (.tmp 6), none, [6], []⟩] [2])
.ret))
theorem ok_177 : FnOk Tryz.prog 177 7 ac_177 [.tmp 2] := ⟨Tryz.f177, Tryz.func177, by kernel_rfl, by kernel_rfl, by kernel_rfl, by kernel_rfl, by kernel_rfl⟩
def ac_180 : AC :=
(.seq (.reg false [⟨some 4, .mv (.const (.int .i64 (0))), none, [], []⟩] [0, 1])
(.seq (.reg false [⟨some 5, .mv (.tmp 0), none, [0], []⟩,
    ⟨some 6, .mv (.tmp 1), none, [1], []⟩,
    ⟨some 7, .bin .add (.tmp 5) (.tmp 6), none, [5, 6], []⟩,
    ⟨some 8, .bin .sub (.tmp 7) (.const (.int .i64 (1))), none, [7], []⟩,
    ⟨some 9, .mv (.tmp 1), none, [1], []⟩,
    ⟨some 10, .bin .quo (.tmp 8) (.tmp 9), none, [8, 9], []⟩,
    ⟨some 4, .mv (.tmp 10), none, [10], []⟩] [4])
.ret))
theorem ok_180 : FnOk Tryz.prog 180 11 ac_180 [.tmp 4] := ⟨Tryz.f180, Tryz.func180, by kernel_rfl, by kernel_rfl, by kernel_rfl, by kernel_rfl, by kernel_rfl⟩
def ac_186 : AC :=
(.seq (.reg false [⟨some 1, .box 134 (.tmp 0), none, [0], []⟩,
    ⟨some 2, .mv (.const (.bool false)), none, [], []⟩] [1])
(.seq (.reg false [⟨some 3, .foff 0 (.tmp 1), none, [1], []⟩,
    ⟨some 4, .load false 1 (.tmp 3), none, [3], []⟩,
    ⟨some 5, .call 219 [(.tmp 4)], none, [4], []⟩,
    ⟨some 6, .bin .eql (.tmp 5) (.const (.int .i64 (0))), none, [5], []⟩,
    ⟨some 7, .mv (.tmp 6), none, [6], []⟩,
    ⟨some 8, .foff 1 (.tmp 1), some (7, true), [1, 7], []⟩,
    ⟨some 9, .load false 1 (.tmp 8), some (7, true), [8, 7], []⟩,
    ⟨some 10, .bin .geq (.tmp 9) (.const (.int .i64 (1))), some (7, true), [9, 7], []⟩,
    ⟨some 11, .pick (.tmp 7) (.tmp 10) (.const (.bool false)), none, [7, 10], []⟩,
    ⟨some 12, .mv (.tmp 11), none, [11], []⟩,
    ⟨some 13, .foff 1 (.tmp 1), some (12, true), [1, 12], []⟩,
    ⟨some 14, .load false 1 (.tmp 13), some (12, true), [13, 12], []⟩,
    ⟨some 15, .bin .leq (.tmp 14) (.const (.int .i64 (2147483647))), some (12, true), [14, 12], []⟩,
    ⟨some 16, .pick (.tmp 12) (.tmp 15) (.const (.bool false)), none, [12, 15], []⟩,
    ⟨some 2, .mv (.tmp 16), none, [16], []⟩] [2])
.ret))
theorem ok_186 : FnOk Tryz.prog 186 17 ac_186 [.tmp 2] := ⟨Tryz.f186, Tryz.func186, by kernel_rfl, by kernel_rfl, by kernel_rfl, by kernel_rfl, by kernel_rfl⟩
end Go.Proofs.YtonglhkiobibgaaGreatDoor
namespace Go.Proofs.YtonglhkiobibgaaGreatDoor
set_option maxRecDepth 100000
def ac_217 : AC :=
(.seq (.reg false [⟨some 4, .mv (.const (.string (ByteArray.mk #[]))), none, [], []⟩,
    ⟨some 5, .mv (.const (.bool false)), none, [], []⟩] [0, 1])
(.seq (.seq (.reg false [⟨some 6, .mv (.tmp 0), none, [0], []⟩,
    ⟨some 7, .mv (.tmp 1), none, [1], []⟩,
    ⟨some 8, .call 248 [(.tmp 6), (.tmp 7)], none, [6, 7], []⟩,
    ⟨some 9, .un .not (.tmp 8), none, [8], []⟩] [0, 1, 9])
(.cond (.tmp 9)
(.seq (.reg false [⟨some 10, .mv (.tmp 0), none, [0], []⟩,
    ⟨some 4, .mv (.tmp 10), none, [10], []⟩,
    ⟨some 5, .mv (.const (.bool false)), none, [], []⟩] [4, 5])
.ret)
.skip))
(.seq (.reg false [⟨some 11, .mv (.tmp 0), none, [0], []⟩,
    ⟨some 12, .mv (.tmp 1), none, [1], []⟩,
    ⟨some 13, .len true (.tmp 12), none, [12], []⟩,
    ⟨some 14, .sslice (.tmp 11) (some (.tmp 13)) none, none, [11, 13], []⟩,
    ⟨some 4, .mv (.tmp 14), none, [14], []⟩,
    ⟨some 5, .mv (.const (.bool true)), none, [], []⟩] [4, 5])
.ret)))
theorem ok_217 : FnOk Tryz.prog 217 15 ac_217 [.tmp 4, .tmp 5] := ⟨Tryz.f217, Tryz.func217, by kernel_rfl, by kernel_rfl, by kernel_rfl, by kernel_rfl, by kernel_rfl⟩
def ac_218 : AC :=
(.seq (.reg false [⟨some 3, .box 9 (.tmp 0), none, [0], []⟩,
    ⟨some 4, .box 9 (.tmp 1), none, [1], []⟩,
    ⟨some 5, .box 3 (.tmp 2), none, [2], []⟩,
    ⟨some 6, .mv (.const .nilFunc), none, [], []⟩] [3, 4, 5])
(.seq (.reg false [⟨some 7, .clo 249 [(.tmp 4), (.tmp 3), (.tmp 5)], none, [4, 3, 5], []⟩,
    ⟨some 6, .mv (.tmp 7), none, [7], []⟩] [6])
.ret))
theorem ok_218 : FnOk Tryz.prog 218 8 ac_218 [.tmp 6] := ⟨Tryz.f218, Tryz.func218, by kernel_rfl, by kernel_rfl, by kernel_rfl, by kernel_rfl, by kernel_rfl⟩
def ac_219 : AC :=
(.seq (.reg false [⟨some 2, .mv (.const (.int .i64 (0))), none, [], []⟩] [0])
(.seq (.block 0 (.seq (.seq (.reg false [⟨some 4, .mv (.tmp 0), none, [0], []⟩,
    ⟨some 5, .bin .eql (.tmp 4) (.const (.string (ByteArray.mk #[]))), none, [4], []⟩,
    ⟨some 3, .mv (.tmp 5), none, [5], []⟩] [0, 3])
(.cond (.tmp 3)
.skip
(.seq (.reg false [⟨some 6, .mv (.tmp 0), none, [0], []⟩,
    ⟨some 7, .bin .eql (.tmp 6) (.const (.string (ByteArray.mk #[46]))), none, [6], []⟩,
    ⟨some 3, .mv (.tmp 7), none, [7], []⟩] [0, 3])
(.cond (.tmp 3)
.skip
(.seq (.reg false [⟨some 8, .mv (.tmp 0), none, [0], []⟩,
    ⟨some 9, .bin .eql (.tmp 8) (.const (.string (ByteArray.mk #[46, 46]))), none, [8], []⟩,
    ⟨some 3, .mv (.tmp 9), none, [9], []⟩] [0, 3])
(.cond (.tmp 3)
.skip
(.seq (.reg false [⟨some 10, .mv (.tmp 0), none, [0], []⟩,
    ⟨some 11, .len true (.tmp 10), none, [10], []⟩,
    ⟨some 12, .bin .gtr (.tmp 11) (.const (.int .i64 (16))), none, [11], []⟩,
    ⟨some 3, .mv (.tmp 12), none, [12], []⟩] [0, 3])
(.cond (.tmp 3)
.skip
(.seq (.reg false [⟨some 13, .mv (.tmp 0), none, [0], []⟩,
    ⟨some 14, .call 252 [(.tmp 13), (.const (.string (ByteArray.mk #[47])))], none, [13], []⟩,
    ⟨some 3, .mv (.tmp 14), none, [14], []⟩] [0, 3])
(.cond (.tmp 3)
.skip
(.reg false [⟨some 15, .mv (.tmp 0), none, [0], []⟩,
    ⟨some 16, .call 252 [(.tmp 15), (.const (.string (ByteArray.mk #[0])))], none, [15], []⟩,
    ⟨some 3, .mv (.tmp 16), none, [16], []⟩] [3])))))))))))
(.cond (.tmp 3)
(.seq (.reg false [⟨some 2, .mv (.const (.int .i64 (106))), none, [], []⟩] [2])
.ret)
.skip)))
(.seq (.reg false [⟨some 2, .mv (.const (.int .i64 (0))), none, [], []⟩] [2])
.ret)))
theorem ok_219 : FnOk Tryz.prog 219 17 ac_219 [.tmp 2] := ⟨Tryz.f219, Tryz.func219, by kernel_rfl, by kernel_rfl, by kernel_rfl, by kernel_rfl, by kernel_rfl⟩
def ac_221 : AC :=
(.seq (.reg false [⟨some 4, .mv (.const (.int .i64 (0))), none, [], []⟩,
    ⟨some 5, .mv (.const (.bool false)), none, [], []⟩] [0, 1])
(.seq (.reg false [⟨some 6, .mv (.tmp 0), none, [0], []⟩,
    ⟨some 7, .mv (.tmp 1), none, [1], []⟩,
    ⟨some 8, .call 253 [(.tmp 6), (.tmp 7), (.func 254)], none, [6, 7], []⟩,
    ⟨some 9, .ext 0 (.tmp 8), none, [8], []⟩,
    ⟨some 10, .ext 1 (.tmp 8), none, [8], []⟩,
    ⟨some 4, .mv (.tmp 9), none, [9], []⟩,
    ⟨some 5, .mv (.tmp 10), none, [10], []⟩] [4, 5])
.ret))
theorem ok_221 : FnOk Tryz.prog 221 11 ac_221 [.tmp 4, .tmp 5] := ⟨Tryz.f221, Tryz.func221, by kernel_rfl, by kernel_rfl, by kernel_rfl, by kernel_rfl, by kernel_rfl⟩
def ac_222 : AC :=
(.seq (.reg false [⟨some 6, .mv (.const (.slice none 0 0)), none, [], []⟩] [0, 1, 2])
(.seq (.reg false [⟨some 10, .mv (.tmp 0), none, [0], []⟩,
    ⟨some 11, .mv (.tmp 1), none, [1], []⟩,
    ⟨some 12, .slice 2 (.tmp 10) (some (.tmp 11)) none, none, [10, 11], []⟩] [0, 1, 2])
(.seq (.reg false [⟨some 13, .mv (.tmp 2), none, [2], []⟩,
    ⟨some 14, .len false (.tmp 13), none, [13], []⟩,
    ⟨some 7, .mv (.tmp 14), none, [14], []⟩] [0, 1, 2, 7])
(.seq (.seq (.reg false [⟨some 15, .mv (.tmp 7), none, [7], []⟩,
    ⟨some 16, .bin .eql (.tmp 15) (.const (.int .i64 (0))), none, [15], []⟩] [0, 1, 2, 7, 16])
(.cond (.tmp 16)
(.seq (.reg false [⟨some 17, .mv (.tmp 0), none, [0], []⟩,
    ⟨some 6, .mv (.tmp 17), none, [17], []⟩] [6])
.ret)
.skip))
(.seq (.reg false [⟨some 18, .mv (.tmp 0), none, [0], []⟩,
    ⟨some 19, .len false (.tmp 18), none, [18], []⟩,
    ⟨some 8, .mv (.tmp 19), none, [19], []⟩] [0, 1, 2, 7, 8])
(.seq (.seq (.reg false [⟨some 20, .mv (.tmp 1), none, [1], []⟩,
    ⟨some 21, .mv (.tmp 8), none, [8], []⟩,
    ⟨some 22, .bin .eql (.tmp 20) (.tmp 21), none, [20, 21], []⟩] [0, 1, 2, 7, 8, 22])
(.cond (.tmp 22)
(.seq (.reg false [⟨some 23, .mv (.tmp 0), none, [0], []⟩,
    ⟨some 24, .mv (.tmp 2), none, [2], []⟩,
    ⟨some 25, .append 134 2 24 (.tmp 23) (.tmp 24), none, [23, 24], []⟩,
    ⟨some 6, .mv (.tmp 25), none, [25], []⟩] [6])
.ret)
.skip))
(.seq (.seq (.reg false [⟨some 26, .mv (.tmp 8), none, [8], []⟩,
    ⟨some 27, .mv (.tmp 7), none, [7], []⟩,
    ⟨some 28, .bin .add (.tmp 26) (.tmp 27), none, [26, 27], []⟩,
    ⟨some 29, .mv (.tmp 0), none, [0], []⟩,
    ⟨some 30, .cap (.tmp 29), none, [29], []⟩,
    ⟨some 31, .bin .gtr (.tmp 28) (.tmp 30), none, [28, 30], []⟩] [0, 1, 2, 7, 8, 31])
(.cond (.tmp 31)
(.seq (.reg false [⟨some 32, .mv (.tmp 0), none, [0], []⟩,
    ⟨some 33, .mv (.tmp 1), none, [1], []⟩,
    ⟨some 34, .slice 2 (.tmp 32) none (some (.tmp 33)), none, [32, 33], []⟩,
    ⟨some 35, .mv (.tmp 8), none, [8], []⟩,
    ⟨some 36, .mv (.tmp 7), none, [7], []⟩,
    ⟨some 37, .bin .add (.tmp 35) (.tmp 36), none, [35, 36], []⟩,
    ⟨some 38, .mv (.tmp 1), none, [1], []⟩,
    ⟨some 39, .bin .sub (.tmp 37) (.tmp 38), none, [37, 38], []⟩,
    ⟨some 40, .appz 134 2 24 [(.string (ByteArray.mk #[])), (.int .i64 (0))] (.tmp 34) (.tmp 39), none, [34, 39], []⟩,
    ⟨some 9, .mv (.tmp 40), none, [40], []⟩] [0, 1, 2, 7, 9])
(.seq (.reg false [⟨some 41, .mv (.tmp 9), none, [9], []⟩,
    ⟨some 42, .mv (.tmp 1), none, [1], []⟩,
    ⟨some 43, .slice 2 (.tmp 41) (some (.tmp 42)) none, none, [41, 42], []⟩,
    ⟨some 44, .mv (.tmp 2), none, [2], []⟩,
    ⟨some 45, .die , none, [43, 44], []⟩] [0, 1, 7, 9])
(.seq (.reg true [⟨some 46, .mv (.tmp 9), none, [9], []⟩,
    ⟨some 47, .mv (.tmp 1), none, [1], []⟩,
    ⟨some 48, .mv (.tmp 7), none, [7], []⟩,
    ⟨some 49, .bin .add (.tmp 47) (.tmp 48), none, [47, 48], [1, 2]⟩,
    ⟨some 50, .slice 2 (.tmp 46) (some (.tmp 49)) none, none, [46, 49], [0, 3, 1, 2]⟩,
    ⟨some 51, .mv (.tmp 0), none, [0], []⟩,
    ⟨some 52, .mv (.tmp 1), none, [1], []⟩,
    ⟨some 53, .slice 2 (.tmp 51) (some (.tmp 52)) none, none, [51, 52], [5, 6]⟩,
    ⟨some 54, .die , none, [50, 53], [4, 7, 0, 3, 1, 2, 5, 6]⟩] [9])
(.seq (.reg false [⟨some 55, .mv (.tmp 9), none, [9], []⟩,
    ⟨some 6, .mv (.tmp 55), none, [55], []⟩] [6])
.ret))))
.skip))
(.seq (.reg false [⟨some 56, .mv (.tmp 0), none, [0], []⟩,
    ⟨some 57, .mv (.tmp 8), none, [8], []⟩,
    ⟨some 58, .mv (.tmp 7), none, [7], []⟩,
    ⟨some 59, .bin .add (.tmp 57) (.tmp 58), none, [57, 58], []⟩,
    ⟨some 60, .slice 2 (.tmp 56) none (some (.tmp 59)), none, [56, 59], []⟩,
    ⟨some 0, .mv (.tmp 60), none, [60], []⟩] [0, 1, 2, 7, 8])
(.seq (.seq (.reg false [⟨some 61, .mv (.tmp 2), none, [2], []⟩,
    ⟨some 62, .mv (.tmp 0), none, [0], []⟩,
    ⟨some 63, .mv (.tmp 1), none, [1], []⟩,
    ⟨some 64, .mv (.tmp 7), none, [7], []⟩,
    ⟨some 65, .bin .add (.tmp 63) (.tmp 64), none, [63, 64], []⟩,
    ⟨some 66, .slice 2 (.tmp 62) (some (.tmp 65)) none, none, [62, 65], []⟩,
    ⟨some 67, .call 256 [(.tmp 61), (.tmp 66)], none, [61, 66], []⟩,
    ⟨some 68, .un .not (.tmp 67), none, [67], []⟩] [0, 1, 2, 7, 8, 68])
(.cond (.tmp 68)
(.seq (.reg true [⟨some 69, .mv (.tmp 0), none, [0], []⟩,
    ⟨some 70, .mv (.tmp 1), none, [1], []⟩,
    ⟨some 71, .mv (.tmp 7), none, [7], []⟩,
    ⟨some 72, .bin .add (.tmp 70) (.tmp 71), none, [70, 71], [1, 2]⟩,
    ⟨some 73, .slice 2 (.tmp 69) (some (.tmp 72)) none, none, [69, 72], [0, 3, 1, 2]⟩,
    ⟨some 74, .mv (.tmp 0), none, [0], []⟩,
    ⟨some 75, .mv (.tmp 1), none, [1], []⟩,
    ⟨some 76, .slice 2 (.tmp 74) (some (.tmp 75)) none, none, [74, 75], [5, 6]⟩,
    ⟨some 77, .die , none, [73, 76], [4, 7, 0, 3, 1, 2, 5, 6]⟩] [0, 1, 2])
(.seq (.reg false [⟨some 78, .mv (.tmp 0), none, [0], []⟩,
    ⟨some 79, .mv (.tmp 1), none, [1], []⟩,
    ⟨some 80, .slice 2 (.tmp 78) (some (.tmp 79)) none, none, [78, 79], []⟩,
    ⟨some 81, .mv (.tmp 2), none, [2], []⟩,
    ⟨some 82, .die , none, [80, 81], []⟩] [0])
(.seq (.reg false [⟨some 83, .mv (.tmp 0), none, [0], []⟩,
    ⟨some 6, .mv (.tmp 83), none, [83], []⟩] [6])
.ret)))
.skip))
(.seq (.reg false [⟨some 84, .mv (.tmp 0), none, [0], []⟩,
    ⟨some 85, .mv (.tmp 8), none, [8], []⟩,
    ⟨some 86, .slice 2 (.tmp 84) (some (.tmp 85)) none, none, [84, 85], []⟩,
    ⟨some 87, .mv (.tmp 2), none, [2], []⟩,
    ⟨some 88, .die , none, [86, 87], []⟩] [0, 1, 7])
(.seq (.reg false [⟨some 89, .mv (.tmp 0), none, [0], []⟩,
    ⟨some 90, .mv (.tmp 1), none, [1], []⟩,
    ⟨some 91, .slice 2 (.tmp 89) (some (.tmp 90)) none, none, [89, 90], []⟩,
    ⟨some 92, .mv (.tmp 7), none, [7], []⟩,
    ⟨some 93, .call 257 [(.tmp 91), (.tmp 92)], none, [91, 92], []⟩] [0])
(.seq (.reg false [⟨some 94, .mv (.tmp 0), none, [0], []⟩,
    ⟨some 6, .mv (.tmp 94), none, [94], []⟩] [6])
.ret))))))))))))
theorem ok_222 : FnOk Tryz.prog 222 95 ac_222 [.tmp 6] := ⟨Tryz.f222, Tryz.func222, by kernel_rfl, by kernel_rfl, by kernel_rfl, by kernel_rfl, by kernel_rfl⟩
def ac_223 : AC :=
(.seq (.reg false [⟨some 2, .box 118 (.tmp 0), none, [0], []⟩,
    ⟨some 4, .mv (.const (.int .i64 (0))), none, [], []⟩] [1, 2])
(.seq (.reg false [⟨some 5, .foff 0 (.tmp 2), none, [2], []⟩,
    ⟨some 6, .load false 1 (.tmp 5), none, [5], []⟩,
    ⟨some 7, .mv (.tmp 1), none, [1], []⟩,
    ⟨some 8, .call 85 [(.tmp 6), (.tmp 7)], none, [6, 7], []⟩,
    ⟨some 4, .mv (.tmp 8), none, [8], []⟩] [4])
.ret))
theorem ok_223 : FnOk Tryz.prog 223 9 ac_223 [.tmp 4] := ⟨Tryz.f223, Tryz.func223, by kernel_rfl, by kernel_rfl, by kernel_rfl, by kernel_rfl, by kernel_rfl⟩
def ac_224 : AC :=
(.seq (.reg false [⟨some 4, .mv (.const (.slice none 0 0)), none, [], []⟩] [0, 1])
(.seq (.seq (.reg false [⟨some 7, .mv (.tmp 0), none, [0], []⟩,
    ⟨some 8, .len false (.tmp 7), none, [7], []⟩,
    ⟨some 9, .bin .eql (.tmp 8) (.const (.int .i64 (0))), none, [8], []⟩] [0, 1, 9])
(.cond (.tmp 9)
(.seq (.reg false [⟨some 4, .mv (.const (.slice none 0 0)), none, [], []⟩] [4])
.ret)
.skip))
(.seq (.seq (.reg false [⟨some 10, .mv (.tmp 1), none, [1], []⟩,
    ⟨some 11, .bin .eql (.tmp 10) (.const (.string (ByteArray.mk #[]))), none, [10], []⟩] [0, 1, 11])
(.cond (.tmp 11)
(.seq (.reg false [⟨some 12, .mv (.tmp 0), none, [0], []⟩,
    ⟨some 4, .mv (.tmp 12), none, [12], []⟩] [4])
.ret)
.skip))
(.seq (.seq (.reg false [⟨some 13, .mv (.tmp 1), none, [1], []⟩,
    ⟨some 14, .len true (.tmp 13), none, [13], []⟩,
    ⟨some 15, .bin .eql (.tmp 14) (.const (.int .i64 (1))), none, [14], []⟩,
    ⟨some 16, .mv (.tmp 15), none, [15], []⟩,
    ⟨some 17, .mv (.tmp 1), some (16, true), [1, 16], []⟩,
    ⟨some 18, .sidx (.tmp 17) (.const (.int .i64 (0))), some (16, true), [17, 16], []⟩,
    ⟨some 19, .bin .lss (.tmp 18) (.const (.int .u8 (128))), some (16, true), [18, 16], []⟩,
    ⟨some 20, .pick (.tmp 16) (.tmp 19) (.const (.bool false)), none, [16, 19], []⟩] [0, 1, 20])
(.cond (.tmp 20)
(.seq (.reg true [⟨some 21, .mv (.tmp 0), none, [0], []⟩,
    ⟨some 22, .mv (.tmp 1), none, [1], []⟩,
    ⟨some 23, .sidx (.tmp 22) (.const (.int .i64 (0))), none, [22], [1]⟩,
    ⟨some 24, .call 259 [(.tmp 21), (.tmp 23)], none, [21, 23], [0, 2, 1]⟩,
    ⟨some 25, .mv (.tmp 1), none, [1], []⟩,
    ⟨some 26, .sidx (.tmp 25) (.const (.int .i64 (0))), none, [25], [4]⟩,
    ⟨some 27, .call 258 [(.tmp 24), (.tmp 26)], none, [24, 26], [3, 5, 0, 2, 1, 4]⟩,
    ⟨some 4, .mv (.tmp 27), none, [27], [6, 0, 1, 2, 3, 4, 5]⟩] [4])
.ret)
.skip))
(.seq (.seq (.reg false [⟨some 29, .mv (.tmp 1), none, [1], []⟩,
    ⟨some 30, .call 260 [(.tmp 29)], none, [29], []⟩,
    ⟨some 28, .mv (.tmp 30), none, [30], []⟩,
    ⟨some 31, .ext 0 (.tmp 28), none, [28], []⟩,
    ⟨some 32, .ext 1 (.tmp 28), none, [28], []⟩,
    ⟨some 5, .new 385 [(.bool false), (.bool false), (.bool false), (.bool false), (.bool false), (.bool false), (.bool false), (.bool false), (.bool false), (.bool false), (.bool false), (.bool false), (.bool false), (.bool false), (.bool false), (.bool false), (.bool false), (.bool false), (.bool false), (.bool false), (.bool false), (.bool false), (.bool false), (.bool false), (.bool false), (.bool false), (.bool false), (.bool false), (.bool false), (.bool false), (.bool false), (.bool false), (.bool false), (.bool false), (.bool false), (.bool false), (.bool false), (.bool false), (.bool false), (.bool false), (.bool false), (.bool false), (.bool false), (.bool false), (.bool false), (.bool false), (.bool false), (.bool false), (.bool false), (.bool false), (.bool false), (.bool false), (.bool false), (.bool false), (.bool false), (.bool false), (.bool false), (.bool false), (.bool false), (.bool false), (.bool false), (.bool false), (.bool false), (.bool false), (.bool false), (.bool false), (.bool false), (.bool false), (.bool false), (.bool false), (.bool false), (.bool false), (.bool false), (.bool false), (.bool false), (.bool false), (.bool false), (.bool false), (.bool false), (.bool false), (.bool false), (.bool false), (.bool false), (.bool false), (.bool false), (.bool false), (.bool false), (.bool false), (.bool false), (.bool false), (.bool false), (.bool false), (.bool false), (.bool false), (.bool false), (.bool false), (.bool false), (.bool false), (.bool false), (.bool false), (.bool false), (.bool false), (.bool false), (.bool false), (.bool false), (.bool false), (.bool false), (.bool false), (.bool false), (.bool false), (.bool false), (.bool false), (.bool false), (.bool false), (.bool false), (.bool false), (.bool false), (.bool false), (.bool false), (.bool false), (.bool false), (.bool false), (.bool false), (.bool false), (.bool false), (.bool false), (.bool false), (.bool false), (.bool false), (.bool false), (.bool false), (.bool false), (.bool false), (.bool false), (.bool false), (.bool false), (.bool false), (.bool false), (.bool false), (.bool false), (.bool false), (.bool false), (.bool false), (.bool false), (.bool false), (.bool false), (.bool false), (.bool false), (.bool false), (.bool false), (.bool false), (.bool false), (.bool false), (.bool false), (.bool false), (.bool false), (.bool false), (.bool false), (.bool false), (.bool false), (.bool false), (.bool false), (.bool false), (.bool false), (.bool false), (.bool false), (.bool false), (.bool false), (.bool false), (.bool false), (.bool false), (.bool false), (.bool false), (.bool false), (.bool false), (.bool false), (.bool false), (.bool false), (.bool false), (.bool false), (.bool false), (.bool false), (.bool false), (.bool false), (.bool false), (.bool false), (.bool false), (.bool false), (.bool false), (.bool false), (.bool false), (.bool false), (.bool false), (.bool false), (.bool false), (.bool false), (.bool false), (.bool false), (.bool false), (.bool false), (.bool false), (.bool false), (.bool false), (.bool false), (.bool false), (.bool false), (.bool false), (.bool false), (.bool false), (.bool false), (.bool false), (.bool false), (.bool false), (.bool false), (.bool false), (.bool false), (.bool false), (.bool false), (.bool false), (.bool false), (.bool false), (.bool false), (.bool false), (.bool false), (.bool false), (.bool false), (.bool false), (.bool false), (.bool false), (.bool false), (.bool false), (.bool false), (.bool false), (.bool false), (.bool false), (.bool false), (.bool false), (.bool false), (.bool false), (.bool false), (.bool false), (.bool false), (.bool false), (.bool false), (.bool false), (.bool false), (.bool false), (.bool false), (.bool false), (.bool false), (.bool false), (.bool false), (.bool false), (.bool false), (.bool false), (.bool false)], none, [], []⟩,
    ⟨none, .store 256 (.tmp 5) (.tmp 31), none, [5, 31], []⟩,
    ⟨some 6, .mv (.tmp 32), none, [32], []⟩] [0, 1, 5, 6])
(.seq (.reg false [⟨some 33, .mv (.tmp 6), none, [6], []⟩] [0, 1, 5, 33])
(.cond (.tmp 33)
(.seq (.reg false [⟨some 34, .mv (.tmp 0), none, [0], []⟩,
    ⟨some 35, .call 262 [(.tmp 34), (.tmp 5)], none, [34, 5], []⟩,
    ⟨some 36, .call 261 [(.tmp 35), (.tmp 5)], none, [35, 5], []⟩,
    ⟨some 4, .mv (.tmp 36), none, [36], []⟩] [4])
.ret)
.skip)))
(.seq (.reg false [⟨some 37, .mv (.tmp 0), none, [0], []⟩,
    ⟨some 38, .mv (.tmp 1), none, [1], []⟩,
    ⟨some 39, .call 264 [(.tmp 37), (.tmp 38)], none, [37, 38], []⟩,
    ⟨some 40, .mv (.tmp 1), none, [1], []⟩,
    ⟨some 41, .call 263 [(.tmp 39), (.tmp 40)], none, [39, 40], []⟩,
    ⟨some 4, .mv (.tmp 41), none, [41], []⟩] [4])
.ret))))))
theorem ok_224 : FnOk Tryz.prog 224 42 ac_224 [.tmp 4] := ⟨Tryz.f224, Tryz.func224, by kernel_rfl, by kernel_rfl, by kernel_rfl, by kernel_rfl, by kernel_rfl⟩
end Go.Proofs.YtonglhkiobibgaaGreatDoor
namespace Go.Proofs.YtonglhkiobibgaaGreatDoor
set_option maxRecDepth 100000
def ac_248 : AC :=
(.seq (.reg false [⟨some 4, .mv (.const (.bool false)), none, [], []⟩] [0, 1])
(.seq (.reg false [⟨some 5, .mv (.tmp 0), none, [0], []⟩,
    ⟨some 6, .len true (.tmp 5), none, [5], []⟩,
    ⟨some 7, .mv (.tmp 1), none, [1], []⟩,
    ⟨some 8, .len true (.tmp 7), none, [7], []⟩,
    ⟨some 9, .bin .geq (.tmp 6) (.tmp 8), none, [6, 8], []⟩,
    ⟨some 10, .mv (.tmp 9), none, [9], []⟩,
    ⟨some 11, .mv (.tmp 0), some (10, true), [0, 10], []⟩,
    ⟨some 12, .mv (.tmp 1), some (10, true), [1, 10], []⟩,
    ⟨some 13, .len true (.tmp 12), some (10, true), [12, 10], []⟩,
    ⟨some 14, .sslice (.tmp 11) none (some (.tmp 13)), some (10, true), [11, 13, 10], []⟩,
    ⟨some 15, .mv (.tmp 1), some (10, true), [1, 10], []⟩,
    ⟨some 16, .bin .eql (.tmp 14) (.tmp 15), some (10, true), [14, 15, 10], []⟩,
    ⟨some 17, .pick (.tmp 10) (.tmp 16) (.const (.bool false)), none, [10, 16], []⟩,
    ⟨some 4, .mv (.tmp 17), none, [17], []⟩] [4])
.ret))
theorem ok_248 : FnOk Tryz.prog 248 18 ac_248 [.tmp 4] := ⟨Tryz.f248, Tryz.func248, by kernel_rfl, by kernel_rfl, by kernel_rfl, by kernel_rfl, by kernel_rfl⟩
def ac_251 : AC :=
(.seq (.reg false [⟨some 4, .mv (.const (.int .i64 (0))), none, [], []⟩] [0, 1])
(.seq (.reg false [⟨some 5, .mv (.tmp 0), none, [0], []⟩,
    ⟨some 6, .mv (.tmp 1), none, [1], []⟩,
    ⟨some 7, .call 281 [(.tmp 5), (.tmp 6)], none, [5, 6], []⟩,
    ⟨some 4, .mv (.tmp 7), none, [7], []⟩] [4])
.ret))
theorem ok_251 : FnOk Tryz.prog 251 8 ac_251 [.tmp 4] := ⟨Tryz.f251, Tryz.func251, by kernel_rfl, by kernel_rfl, by kernel_rfl, by kernel_rfl, by kernel_rfl⟩
def ac_252 : AC :=
(.seq (.reg false [⟨some 4, .mv (.const (.bool false)), none, [], []⟩] [0, 1])
(.seq (.reg false [⟨some 5, .mv (.tmp 0), none, [0], []⟩,
    ⟨some 6, .mv (.tmp 1), none, [1], []⟩,
    ⟨some 7, .call 251 [(.tmp 5), (.tmp 6)], none, [5, 6], []⟩,
    ⟨some 8, .bin .geq (.tmp 7) (.const (.int .i64 (0))), none, [7], []⟩,
    ⟨some 4, .mv (.tmp 8), none, [8], []⟩] [4])
.ret))
theorem ok_252 : FnOk Tryz.prog 252 9 ac_252 [.tmp 4] := ⟨Tryz.f252, Tryz.func252, by kernel_rfl, by kernel_rfl, by kernel_rfl, by kernel_rfl, by kernel_rfl⟩
def ac_253 : AC :=
(.seq (.reg false [⟨some 6, .mv (.const (.int .i64 (0))), none, [], []⟩,
    ⟨some 7, .mv (.const (.bool false)), none, [], []⟩] [0, 1, 2])
(.seq (.reg false [⟨some 12, .mv (.tmp 0), none, [0], []⟩,
    ⟨some 13, .len false (.tmp 12), none, [12], []⟩,
    ⟨some 8, .mv (.tmp 13), none, [13], []⟩] [0, 1, 2, 8])
(.seq (.reg false [⟨some 14, .mv (.tmp 8), none, [8], []⟩,
    ⟨some 9, .mv (.const (.int .i64 (0))), none, [], []⟩,
    ⟨some 10, .mv (.tmp 14), none, [14], []⟩] [0, 1, 2, 8, 9, 10])
(.seq (.block 0 (.loop (.seq (.seq (.reg false [⟨some 15, .mv (.tmp 9), none, [9], []⟩,
    ⟨some 16, .mv (.tmp 10), none, [10], []⟩,
    ⟨some 17, .bin .lss (.tmp 15) (.tmp 16), none, [15, 16], []⟩] [0, 1, 2, 8, 9, 10, 17])
(.cond (.tmp 17)
.skip
(.exit 0)))
(.block 1 (.seq (.reg false [⟨some 18, .mv (.tmp 9), none, [9], []⟩,
    ⟨some 19, .mv (.tmp 10), none, [10], []⟩,
    ⟨some 20, .bin .add (.tmp 18) (.tmp 19), none, [18, 19], []⟩,
    ⟨some 21, .conv .u64 (.tmp 20), none, [20], []⟩,
    ⟨some 22, .bin .shr (.tmp 21) (.const (.int .u64 (1))), none, [21], []⟩,
    ⟨some 23, .conv .i64 (.tmp 22), none, [22], []⟩,
    ⟨some 11, .mv (.tmp 23), none, [23], []⟩] [0, 1, 2, 8, 9, 10, 11])
(.seq (.reg false [⟨some 24, .mv (.tmp 2), none, [2], []⟩,
    ⟨some 25, .mv (.tmp 0), none, [0], []⟩,
    ⟨some 26, .mv (.tmp 11), none, [11], []⟩,
    ⟨some 27, .idx 2 (.tmp 25) (.tmp 26), none, [25, 26], []⟩,
    ⟨some 28, .load true 2 (.tmp 27), none, [27], []⟩,
    ⟨some 29, .mv (.tmp 1), none, [1], []⟩,
    ⟨some 30, .callv (.tmp 24) [(.tmp 28), (.tmp 29)], none, [24, 28, 29], []⟩,
    ⟨some 31, .bin .lss (.tmp 30) (.const (.int .i64 (0))), none, [30], []⟩] [0, 1, 2, 8, 9, 10, 11, 31])
(.cond (.tmp 31)
(.reg false [⟨some 32, .mv (.tmp 11), none, [11], []⟩,
    ⟨some 33, .bin .add (.tmp 32) (.const (.int .i64 (1))), none, [32], []⟩,
    ⟨some 9, .mv (.tmp 33), none, [33], []⟩] [0, 1, 2, 8, 9, 10])
(.reg false [⟨some 34, .mv (.tmp 11), none, [11], []⟩,
    ⟨some 10, .mv (.tmp 34), none, [34], []⟩] [0, 1, 2, 8, 9, 10]))))))))
(.seq (.reg false [⟨some 35, .mv (.tmp 9), none, [9], []⟩,
    ⟨some 36, .mv (.tmp 9), none, [9], []⟩,
    ⟨some 37, .mv (.tmp 8), none, [8], []⟩,
    ⟨some 38, .bin .lss (.tmp 36) (.tmp 37), none, [36, 37], []⟩,
    ⟨some 39, .mv (.tmp 38), none, [38], []⟩,
    ⟨some 40, .mv (.tmp 2), some (39, true), [2, 39], []⟩,
    ⟨some 41, .mv (.tmp 0), some (39, true), [0, 39], []⟩,
    ⟨some 42, .mv (.tmp 9), some (39, true), [9, 39], []⟩,
    ⟨some 43, .idx 2 (.tmp 41) (.tmp 42), some (39, true), [41, 42, 39], []⟩,
    ⟨some 44, .load true 2 (.tmp 43), some (39, true), [43, 39], []⟩,
    ⟨some 45, .mv (.tmp 1), some (39, true), [1, 39], []⟩,
    ⟨some 46, .callv (.tmp 40) [(.tmp 44), (.tmp 45)], some (39, true), [40, 44, 45, 39], []⟩,
    ⟨some 47, .bin .eql (.tmp 46) (.const (.int .i64 (0))), some (39, true), [46, 39], []⟩,
    ⟨some 48, .pick (.tmp 39) (.tmp 47) (.const (.bool false)), none, [39, 47], []⟩,
    ⟨some 6, .mv (.tmp 35), none, [35], []⟩,
    ⟨some 7, .mv (.tmp 48), none, [48], []⟩] [6, 7])
.ret)))))
theorem ok_253 : FnOk Tryz.prog 253 49 ac_253 [.tmp 6, .tmp 7] := ⟨Tryz.f253, Tryz.func253, by kernel_rfl, by kernel_rfl, by kernel_rfl, by kernel_rfl, by kernel_rfl⟩
def ac_254 : AC :=
(.seq (.reg false [⟨some 2, .box 134 (.tmp 0), none, [0], []⟩,
    ⟨some 4, .mv (.const (.int .i64 (0))), none, [], []⟩] [1, 2])
(.seq (.reg false [⟨some 5, .foff 0 (.tmp 2), none, [2], []⟩,
    ⟨some 6, .load false 1 (.tmp 5), none, [5], []⟩,
    ⟨some 7, .mv (.tmp 1), none, [1], []⟩,
    ⟨some 8, .call 255 [(.tmp 6), (.tmp 7)], none, [6, 7], []⟩,
    ⟨some 4, .mv (.tmp 8), none, [8], []⟩] [4])
.ret))
theorem ok_254 : FnOk Tryz.prog 254 9 ac_254 [.tmp 4] := ⟨Tryz.f254, Tryz.func254, by kernel_rfl, by kernel_rfl, by kernel_rfl, by kernel_rfl, by kernel_rfl⟩
def ac_255 : AC :=
(.seq (.reg false [⟨some 4, .mv (.const (.int .i64 (0))), none, [], []⟩] [0, 1])
(.seq (.reg false [⟨some 7, .mv (.tmp 0), none, [0], []⟩,
    ⟨some 8, .call 282 [(.tmp 7)], none, [7], []⟩,
    ⟨some 5, .mv (.tmp 8), none, [8], []⟩] [0, 1, 5])
(.seq (.reg false [⟨some 9, .mv (.tmp 1), none, [1], []⟩,
    ⟨some 10, .call 282 [(.tmp 9)], none, [9], []⟩,
    ⟨some 6, .mv (.tmp 10), none, [10], []⟩] [0, 1, 5, 6])
(.seq (.seq (.reg false [⟨some 11, .mv (.tmp 5), none, [5], []⟩] [0, 1, 6, 11])
(.cond (.tmp 11)
(.seq (.seq (.reg false [⟨some 12, .mv (.tmp 6), none, [6], []⟩] [12])
(.cond (.tmp 12)
(.seq (.reg false [⟨some 4, .mv (.const (.int .i64 (0))), none, [], []⟩] [4])
.ret)
.skip))
(.seq (.reg false [⟨some 4, .mv (.const (.int .i64 (-1))), none, [], []⟩] [4])
.ret))
.skip))
(.seq (.seq (.reg false [⟨some 13, .mv (.tmp 6), none, [6], []⟩] [0, 1, 13])
(.cond (.tmp 13)
(.seq (.reg false [⟨some 4, .mv (.const (.int .i64 (1))), none, [], []⟩] [4])
.ret)
.skip))
(.seq (.seq (.reg false [⟨some 14, .mv (.tmp 0), none, [0], []⟩,
    ⟨some 15, .mv (.tmp 1), none, [1], []⟩,
    ⟨some 16, .bin .lss (.tmp 14) (.tmp 15), none, [14, 15], []⟩] [0, 1, 16])
(.cond (.tmp 16)
(.seq (.reg false [⟨some 4, .mv (.const (.int .i64 (-1))), none, [], []⟩] [4])
.ret)
.skip))
(.seq (.seq (.reg false [⟨some 17, .mv (.tmp 0), none, [0], []⟩,
    ⟨some 18, .mv (.tmp 1), none, [1], []⟩,
    ⟨some 19, .bin .gtr (.tmp 17) (.tmp 18), none, [17, 18], []⟩] [19])
(.cond (.tmp 19)
(.seq (.reg false [⟨some 4, .mv (.const (.int .i64 (1))), none, [], []⟩] [4])
.ret)
.skip))
(.seq (.reg false [⟨some 4, .mv (.const (.int .i64 (0))), none, [], []⟩] [4])
.ret))))))))
theorem ok_255 : FnOk Tryz.prog 255 20 ac_255 [.tmp 4] := ⟨Tryz.f255, Tryz.func255, by kernel_rfl, by kernel_rfl, by kernel_rfl, by kernel_rfl, by kernel_rfl⟩
def ac_258 : AC :=
(.seq (.reg false [⟨some 4, .mv (.const (.slice none 0 0)), none, [], []⟩] [0, 1])
(.seq (.block 0 (.loop (.seq (.seq (.reg false [⟨some 5, .mv (.tmp 0), none, [0], []⟩,
    ⟨some 6, .len false (.tmp 5), none, [5], []⟩,
    ⟨some 7, .bin .gtr (.tmp 6) (.const (.int .i64 (0))), none, [6], []⟩,
    ⟨some 8, .mv (.tmp 7), none, [7], []⟩,
    ⟨some 9, .mv (.tmp 0), some (8, true), [0, 8], []⟩,
    ⟨some 10, .idx 1 (.tmp 9) (.const (.int .i64 (0))), some (8, true), [9, 8], []⟩,
    ⟨some 11, .load false 1 (.tmp 10), some (8, true), [10, 8], []⟩,
    ⟨some 12, .mv (.tmp 1), some (8, true), [1, 8], []⟩,
    ⟨some 13, .bin .eql (.tmp 11) (.tmp 12), some (8, true), [11, 12, 8], []⟩,
    ⟨some 14, .pick (.tmp 8) (.tmp 13) (.const (.bool false)), none, [8, 13], []⟩] [0, 1, 14])
(.cond (.tmp 14)
.skip
(.exit 0)))
(.block 1 (.reg false [⟨some 15, .mv (.tmp 0), none, [0], []⟩,
    ⟨some 16, .slice 1 (.tmp 15) (some (.const (.int .i64 (1)))) none, none, [15], []⟩,
    ⟨some 0, .mv (.tmp 16), none, [16], []⟩] [0, 1])))))
(.seq (.seq (.reg false [⟨some 17, .mv (.tmp 0), none, [0], []⟩,
    ⟨some 18, .len false (.tmp 17), none, [17], []⟩,
    ⟨some 19, .bin .eql (.tmp 18) (.const (.int .i64 (0))), none, [18], []⟩] [0, 19])
(.cond (.tmp 19)
(.seq (.reg false [⟨some 4, .mv (.const (.slice none 0 0)), none, [], []⟩] [4])
.ret)
.skip))
(.seq (.reg false [⟨some 20, .mv (.tmp 0), none, [0], []⟩,
    ⟨some 4, .mv (.tmp 20), none, [20], []⟩] [4])
.ret))))
theorem ok_258 : FnOk Tryz.prog 258 21 ac_258 [.tmp 4] := ⟨Tryz.f258, Tryz.func258, by kernel_rfl, by kernel_rfl, by kernel_rfl, by kernel_rfl, by kernel_rfl⟩
def ac_259 : AC :=
(.seq (.reg false [⟨some 4, .mv (.const (.slice none 0 0)), none, [], []⟩] [0, 1])
(.seq (.block 0 (.loop (.seq (.seq (.reg false [⟨some 5, .mv (.tmp 0), none, [0], []⟩,
    ⟨some 6, .len false (.tmp 5), none, [5], []⟩,
    ⟨some 7, .bin .gtr (.tmp 6) (.const (.int .i64 (0))), none, [6], []⟩,
    ⟨some 8, .mv (.tmp 7), none, [7], []⟩,
    ⟨some 9, .mv (.tmp 0), some (8, true), [0, 8], []⟩,
    ⟨some 10, .mv (.tmp 0), some (8, true), [0, 8], []⟩,
    ⟨some 11, .len false (.tmp 10), some (8, true), [10, 8], []⟩,
    ⟨some 12, .bin .sub (.tmp 11) (.const (.int .i64 (1))), some (8, true), [11, 8], []⟩,
    ⟨some 13, .idx 1 (.tmp 9) (.tmp 12), some (8, true), [9, 12, 8], []⟩,
    ⟨some 14, .load false 1 (.tmp 13), some (8, true), [13, 8], []⟩,
    ⟨some 15, .mv (.tmp 1), some (8, true), [1, 8], []⟩,
    ⟨some 16, .bin .eql (.tmp 14) (.tmp 15), some (8, true), [14, 15, 8], []⟩,
    ⟨some 17, .pick (.tmp 8) (.tmp 16) (.const (.bool false)), none, [8, 16], []⟩] [0, 1, 17])
(.cond (.tmp 17)
.skip
(.exit 0)))
(.block 1 (.reg false [⟨some 18, .mv (.tmp 0), none, [0], []⟩,
    ⟨some 19, .mv (.tmp 0), none, [0], []⟩,
    ⟨some 20, .len false (.tmp 19), none, [19], []⟩,
    ⟨some 21, .bin .sub (.tmp 20) (.const (.int .i64 (1))), none, [20], []⟩,
    ⟨some 22, .slice 1 (.tmp 18) none (some (.tmp 21)), none, [18, 21], []⟩,
    ⟨some 0, .mv (.tmp 22), none, [22], []⟩] [0, 1])))))
(.seq (.reg false [⟨some 23, .mv (.tmp 0), none, [0], []⟩,
    ⟨some 4, .mv (.tmp 23), none, [23], []⟩] [4])
.ret)))
theorem ok_259 : FnOk Tryz.prog 259 24 ac_259 [.tmp 4] := ⟨Tryz.f259, Tryz.func259, by kernel_rfl, by kernel_rfl, by kernel_rfl, by kernel_rfl, by kernel_rfl⟩
end Go.Proofs.YtonglhkiobibgaaGreatDoor
namespace Go.Proofs.YtonglhkiobibgaaGreatDoor
set_option maxRecDepth 100000
def ac_281 : AC :=
(.seq (.reg false [⟨some 4, .mv (.const (.int .i64 (0))), none, [], []⟩] [0, 1])
(.seq (.reg false [⟨some 14, .mv (.tmp 1), none, [1], []⟩,
    ⟨some 15, .len true (.tmp 14), none, [14], []⟩,
    ⟨some 5, .mv (.tmp 15), none, [15], []⟩] [0, 1, 5])
(.seq (.block 0 (.seq (.reg false [⟨some 17, .mv (.tmp 5), none, [5], []⟩,
    ⟨some 18, .bin .eql (.tmp 17) (.const (.int .i64 (0))), none, [17], []⟩,
    ⟨some 19, .mv (.tmp 18), none, [18], []⟩,
    ⟨some 20, .mv (.tmp 1), some (19, false), [1, 19], []⟩,
    ⟨some 21, .mv (.tmp 0), some (19, false), [0, 19], []⟩,
    ⟨some 22, .bin .eql (.tmp 20) (.tmp 21), some (19, false), [20, 21, 19], []⟩,
    ⟨some 23, .pick (.tmp 19) (.const (.bool true)) (.tmp 22), none, [19, 22], []⟩,
    ⟨some 16, .mv (.tmp 23), none, [23], []⟩] [0, 1, 5, 16])
(.cond (.tmp 16)
(.seq (.reg false [⟨some 4, .mv (.const (.int .i64 (0))), none, [], []⟩] [4])
.ret)
(.seq (.reg false [⟨some 25, .mv (.tmp 5), none, [5], []⟩,
    ⟨some 26, .bin .eql (.tmp 25) (.const (.int .i64 (1))), none, [25], []⟩,
    ⟨some 24, .mv (.tmp 26), none, [26], []⟩] [0, 1, 5, 24])
(.cond (.tmp 24)
(.seq (.reg false [⟨some 27, .mv (.tmp 0), none, [0], []⟩,
    ⟨some 28, .mv (.tmp 1), none, [1], []⟩,
    ⟨some 29, .sidx (.tmp 28) (.const (.int .i64 (0))), none, [28], []⟩,
    ⟨some 30, .call 298 [(.tmp 27), (.tmp 29)], none, [27, 29], []⟩,
    ⟨some 4, .mv (.tmp 30), none, [30], []⟩] [4])
.ret)
(.seq (.reg false [⟨some 32, .mv (.tmp 5), none, [5], []⟩,
    ⟨some 33, .mv (.tmp 0), none, [0], []⟩,
    ⟨some 34, .len true (.tmp 33), none, [33], []⟩,
    ⟨some 35, .bin .geq (.tmp 32) (.tmp 34), none, [32, 34], []⟩,
    ⟨some 31, .mv (.tmp 35), none, [35], []⟩] [0, 1, 5, 31])
(.cond (.tmp 31)
(.seq (.reg false [⟨some 4, .mv (.const (.int .i64 (-1))), none, [], []⟩] [4])
.ret)
(.seq (.reg false [⟨some 37, .mv (.tmp 5), none, [5], []⟩,
    ⟨some 38, .load false 1 (.global 3), none, [], []⟩,
    ⟨some 39, .bin .leq (.tmp 37) (.tmp 38), none, [37, 38], []⟩,
    ⟨some 40, .mv (.tmp 39), none, [39], []⟩,
    ⟨some 41, .mv (.tmp 0), some (40, true), [0, 40], []⟩,
    ⟨some 42, .len true (.tmp 41), some (40, true), [41, 40], []⟩,
    ⟨some 43, .bin .leq (.tmp 42) (.const (.int .i64 (64))), some (40, true), [42, 40], []⟩,
    ⟨some 44, .pick (.tmp 40) (.tmp 43) (.const (.bool false)), none, [40, 43], []⟩,
    ⟨some 36, .mv (.tmp 44), none, [44], []⟩] [0, 1, 5, 36])
(.cond (.tmp 36)
(.seq (.reg false [⟨some 45, .mv (.tmp 0), none, [0], []⟩,
    ⟨some 46, .mv (.tmp 1), none, [1], []⟩,
    ⟨some 47, .call 299 [(.tmp 45), (.tmp 46)], none, [45, 46], []⟩,
    ⟨some 4, .mv (.tmp 47), none, [47], []⟩] [4])
.ret)
.skip)))))))))
(.seq (.reg false [⟨some 48, .mv (.tmp 1), none, [1], []⟩,
    ⟨some 49, .sidx (.tmp 48) (.const (.int .i64 (0))), none, [48], []⟩,
    ⟨some 6, .mv (.tmp 49), none, [49], []⟩] [0, 1, 5, 6])
(.seq (.reg false [⟨some 50, .mv (.tmp 1), none, [1], []⟩,
    ⟨some 51, .sidx (.tmp 50) (.const (.int .i64 (1))), none, [50], []⟩,
    ⟨some 7, .mv (.tmp 51), none, [51], []⟩] [0, 1, 5, 6, 7])
(.seq (.reg false [⟨some 8, .mv (.const (.int .i64 (0))), none, [], []⟩] [0, 1, 5, 6, 7, 8])
(.seq (.reg false [⟨some 52, .mv (.tmp 0), none, [0], []⟩,
    ⟨some 53, .len true (.tmp 52), none, [52], []⟩,
    ⟨some 54, .mv (.tmp 5), none, [5], []⟩,
    ⟨some 55, .bin .sub (.tmp 53) (.tmp 54), none, [53, 54], []⟩,
    ⟨some 56, .bin .add (.tmp 55) (.const (.int .i64 (1))), none, [55], []⟩,
    ⟨some 9, .mv (.tmp 56), none, [56], []⟩] [0, 1, 5, 6, 7, 8, 9])
(.seq (.reg false [⟨some 10, .mv (.const (.int .i64 (0))), none, [], []⟩] [0, 1, 5, 6, 7, 8, 9, 10])
(.seq (.block 1 (.loop (.seq (.seq (.reg false [⟨some 57, .mv (.tmp 8), none, [8], []⟩,
    ⟨some 58, .mv (.tmp 9), none, [9], []⟩,
    ⟨some 59, .bin .lss (.tmp 57) (.tmp 58), none, [57, 58], []⟩] [0, 1, 5, 6, 7, 8, 9, 10, 59])
(.cond (.tmp 59)
.skip
(.exit 1)))
(.block 2 (.seq (.seq (.reg false [⟨some 60, .mv (.tmp 0), none, [0], []⟩,
    ⟨some 61, .mv (.tmp 8), none, [8], []⟩,
    ⟨some 62, .sidx (.tmp 60) (.tmp 61), none, [60, 61], []⟩,
    ⟨some 63, .mv (.tmp 6), none, [6], []⟩,
    ⟨some 64, .bin .neq (.tmp 62) (.tmp 63), none, [62, 63], []⟩] [0, 1, 5, 6, 7, 8, 9, 10, 64])
(.cond (.tmp 64)
(.seq (.reg false [⟨some 65, .mv (.tmp 0), none, [0], []⟩,
    ⟨some 66, .mv (.tmp 8), none, [8], []⟩,
    ⟨some 67, .bin .add (.tmp 66) (.const (.int .i64 (1))), none, [66], []⟩,
    ⟨some 68, .mv (.tmp 9), none, [9], []⟩,
    ⟨some 69, .sslice (.tmp 65) (some (.tmp 67)) (some (.tmp 68)), none, [65, 67, 68], []⟩,
    ⟨some 70, .mv (.tmp 6), none, [6], []⟩,
    ⟨some 71, .call 298 [(.tmp 69), (.tmp 70)], none, [69, 70], []⟩,
    ⟨some 11, .mv (.tmp 71), none, [71], []⟩] [0, 1, 5, 6, 7, 8, 9, 10, 11])
(.seq (.seq (.reg false [⟨some 72, .mv (.tmp 11), none, [11], []⟩,
    ⟨some 73, .bin .lss (.tmp 72) (.const (.int .i64 (0))), none, [72], []⟩] [0, 1, 5, 6, 7, 8, 9, 10, 11, 73])
(.cond (.tmp 73)
(.seq (.reg false [⟨some 4, .mv (.const (.int .i64 (-1))), none, [], []⟩] [4])
.ret)
.skip))
(.reg false [⟨some 74, .mv (.tmp 8), none, [8], []⟩,
    ⟨some 75, .mv (.tmp 11), none, [11], []⟩,
    ⟨some 76, .bin .add (.tmp 75) (.const (.int .i64 (1))), none, [75], []⟩,
    ⟨some 77, .bin .add (.tmp 74) (.tmp 76), none, [74, 76], []⟩,
    ⟨some 8, .mv (.tmp 77), none, [77], []⟩] [0, 1, 5, 6, 7, 8, 9, 10])))
.skip))
(.seq (.seq (.reg false [⟨some 78, .mv (.tmp 0), none, [0], []⟩,
    ⟨some 79, .mv (.tmp 8), none, [8], []⟩,
    ⟨some 80, .bin .add (.tmp 79) (.const (.int .i64 (1))), none, [79], []⟩,
    ⟨some 81, .sidx (.tmp 78) (.tmp 80), none, [78, 80], []⟩,
    ⟨some 82, .mv (.tmp 7), none, [7], []⟩,
    ⟨some 83, .bin .eql (.tmp 81) (.tmp 82), none, [81, 82], []⟩,
    ⟨some 84, .mv (.tmp 83), none, [83], []⟩,
    ⟨some 85, .mv (.tmp 0), some (84, true), [0, 84], []⟩,
    ⟨some 86, .mv (.tmp 8), some (84, true), [8, 84], []⟩,
    ⟨some 87, .mv (.tmp 8), some (84, true), [8, 84], []⟩,
    ⟨some 88, .mv (.tmp 5), some (84, true), [5, 84], []⟩,
    ⟨some 89, .bin .add (.tmp 87) (.tmp 88), some (84, true), [87, 88, 84], []⟩,
    ⟨some 90, .sslice (.tmp 85) (some (.tmp 86)) (some (.tmp 89)), some (84, true), [85, 86, 89, 84], []⟩,
    ⟨some 91, .mv (.tmp 1), some (84, true), [1, 84], []⟩,
    ⟨some 92, .bin .eql (.tmp 90) (.tmp 91), some (84, true), [90, 91, 84], []⟩,
    ⟨some 93, .pick (.tmp 84) (.tmp 92) (.const (.bool false)), none, [84, 92], []⟩] [0, 1, 5, 6, 7, 8, 9, 10, 93])
(.cond (.tmp 93)
(.seq (.reg false [⟨some 94, .mv (.tmp 8), none, [8], []⟩,
    ⟨some 4, .mv (.tmp 94), none, [94], []⟩] [4])
.ret)
.skip))
(.seq (.reg false [⟨some 95, .mv (.tmp 8), none, [8], []⟩,
    ⟨some 96, .bin .add (.tmp 95) (.const (.int .i64 (1))), none, [95], []⟩,
    ⟨some 8, .mv (.tmp 96), none, [96], []⟩] [0, 1, 5, 6, 7, 8, 9, 10])
(.seq (.reg false [⟨some 97, .mv (.tmp 10), none, [10], []⟩,
    ⟨some 98, .bin .add (.tmp 97) (.const (.int .i64 (1))), none, [97], []⟩,
    ⟨some 10, .mv (.tmp 98), none, [98], []⟩] [0, 1, 5, 6, 7, 8, 9, 10])
(.seq (.reg false [⟨some 99, .mv (.tmp 5), none, [5], []⟩,
    ⟨some 100, .load false 1 (.global 3), none, [], []⟩,
    ⟨some 101, .bin .leq (.tmp 99) (.tmp 100), none, [99, 100], []⟩,
    ⟨some 102, .mv (.tmp 101), none, [101], []⟩,
    ⟨some 103, .mv (.tmp 10), some (102, true), [10, 102], []⟩,
    ⟨some 104, .mv (.tmp 8), some (102, true), [8, 102], []⟩,
    ⟨some 105, .call 300 [(.tmp 104)], some (102, true), [104, 102], []⟩,
    ⟨some 106, .bin .gtr (.tmp 103) (.tmp 105), some (102, true), [103, 105, 102], []⟩,
    ⟨some 107, .pick (.tmp 102) (.tmp 106) (.const (.bool false)), none, [102, 106], []⟩] [0, 1, 5, 6, 7, 8, 9, 10, 107])
(.cond (.tmp 107)
(.seq (.reg false [⟨some 108, .mv (.tmp 0), none, [0], []⟩,
    ⟨some 109, .mv (.tmp 8), none, [8], []⟩,
    ⟨some 110, .sslice (.tmp 108) (some (.tmp 109)) none, none, [108, 109], []⟩,
    ⟨some 111, .mv (.tmp 1), none, [1], []⟩,
    ⟨some 112, .call 299 [(.tmp 110), (.tmp 111)], none, [110, 111], []⟩,
    ⟨some 12, .mv (.tmp 112), none, [112], []⟩] [8, 12])
(.seq (.seq (.reg false [⟨some 113, .mv (.tmp 12), none, [12], []⟩,
    ⟨some 114, .bin .geq (.tmp 113) (.const (.int .i64 (0))), none, [113], []⟩] [8, 12, 114])
(.cond (.tmp 114)
(.seq (.reg false [⟨some 115, .mv (.tmp 12), none, [12], []⟩,
    ⟨some 116, .mv (.tmp 8), none, [8], []⟩,
    ⟨some 117, .bin .add (.tmp 115) (.tmp 116), none, [115, 116], []⟩,
    ⟨some 4, .mv (.tmp 117), none, [117], []⟩] [4])
.ret)
.skip))
(.seq (.reg false [⟨some 4, .mv (.const (.int .i64 (-1))), none, [], []⟩] [4])
.ret)))
(.seq (.reg false [⟨some 118, .mv (.tmp 5), none, [5], []⟩,
    ⟨some 119, .load false 1 (.global 3), none, [], []⟩,
    ⟨some 120, .bin .gtr (.tmp 118) (.tmp 119), none, [118, 119], []⟩,
    ⟨some 121, .mv (.tmp 120), none, [120], []⟩,
    ⟨some 122, .mv (.tmp 10), some (121, true), [10, 121], []⟩,
    ⟨some 123, .mv (.tmp 8), some (121, true), [8, 121], []⟩,
    ⟨some 124, .bin .shr (.tmp 123) (.const (.int .u64 (4))), some (121, true), [123, 121], []⟩,
    ⟨some 125, .bin .add (.const (.int .i64 (4))) (.tmp 124), some (121, true), [124, 121], []⟩,
    ⟨some 126, .bin .geq (.tmp 122) (.tmp 125), some (121, true), [122, 125, 121], []⟩,
    ⟨some 127, .pick (.tmp 121) (.tmp 126) (.const (.bool false)), none, [121, 126], []⟩,
    ⟨some 128, .mv (.tmp 127), none, [127], []⟩,
    ⟨some 129, .mv (.tmp 8), some (128, true), [8, 128], []⟩,
    ⟨some 130, .mv (.tmp 9), some (128, true), [9, 128], []⟩,
    ⟨some 131, .bin .lss (.tmp 129) (.tmp 130), some (128, true), [129, 130, 128], []⟩,
    ⟨some 132, .pick (.tmp 128) (.tmp 131) (.const (.bool false)), none, [128, 131], []⟩] [0, 1, 5, 6, 7, 8, 9, 10, 132])
(.cond (.tmp 132)
(.seq (.reg false [⟨some 133, .mv (.tmp 0), none, [0], []⟩,
    ⟨some 134, .mv (.tmp 8), none, [8], []⟩,
    ⟨some 135, .sslice (.tmp 133) (some (.tmp 134)) none, none, [133, 134], []⟩,
    ⟨some 136, .mv (.tmp 1), none, [1], []⟩,
    ⟨some 137, .call 301 [(.tmp 135), (.tmp 136)], none, [135, 136], []⟩,
    ⟨some 13, .mv (.tmp 137), none, [137], []⟩] [8, 13])
(.seq (.seq (.reg false [⟨some 138, .mv (.tmp 13), none, [13], []⟩,
    ⟨some 139, .bin .lss (.tmp 138) (.const (.int .i64 (0))), none, [138], []⟩] [8, 13, 139])
(.cond (.tmp 139)
(.seq (.reg false [⟨some 4, .mv (.const (.int .i64 (-1))), none, [], []⟩] [4])
.ret)
.skip))
(.seq (.reg false [⟨some 140, .mv (.tmp 8), none, [8], []⟩,
    ⟨some 141, .mv (.tmp 13), none, [13], []⟩,
    ⟨some 142, .bin .add (.tmp 140) (.tmp 141), none, [140, 141], []⟩,
    ⟨some 4, .mv (.tmp 142), none, [142], []⟩] [4])
.ret)))
.skip))))))))))))
(.seq (.reg false [⟨some 4, .mv (.const (.int .i64 (-1))), none, [], []⟩] [4])
.ret))))))))))
theorem ok_281 : FnOk Tryz.prog 281 143 ac_281 [.tmp 4] := ⟨Tryz.f281, Tryz.func281, by kernel_rfl, by kernel_rfl, by kernel_rfl, by kernel_rfl, by kernel_rfl⟩
def ac_282 : AC :=
(.seq (.reg false [⟨some 2, .mv (.const (.bool false)), none, [], []⟩] [0])
(.seq (.reg false [⟨some 3, .mv (.tmp 0), none, [0], []⟩,
    ⟨some 4, .mv (.tmp 0), none, [0], []⟩,
    ⟨some 5, .bin .neq (.tmp 3) (.tmp 4), none, [3, 4], []⟩,
    ⟨some 2, .mv (.tmp 5), none, [5], []⟩] [2])
.ret))
theorem ok_282 : FnOk Tryz.prog 282 6 ac_282 [.tmp 2] := ⟨Tryz.f282, Tryz.func282, by kernel_rfl, by kernel_rfl, by kernel_rfl, by kernel_rfl, by kernel_rfl⟩
end Go.Proofs.YtonglhkiobibgaaGreatDoor
namespace Go.Proofs.YtonglhkiobibgaaGreatDoor
open Go.RowKit
set_option maxRecDepth 100000
theorem copyBytes_spec (fr : Bool) (l : List Int) (nb : Nat) (h : l.length ≤ 140737488355328) : ASound Tryz.prog 42 [fB fr l] nb (.ret (fB true l) []) := by
  refine ok_42.sound (by simp) ⟨al_fB l, trivial⟩ ?_
  simp only [ac_42, len_B, h, TT, ↓reduceIte, Nat.reduceEqDiff, Nat.reduceAdd, Nat.reduceMul, reduceCtorEq, Nat.reduceLeDiff]
  refine Ends.weak (Weak.freezeC 400000 rfl (l := [(2, fB true l)]) (h := []) ?_ ?_) (Ends.data (.inr rfl) (by simp [ET, fB]) (al_fB l))
  · simp [WT]
  · simp [WT]
end Go.Proofs.YtonglhkiobibgaaGreatDoor
namespace Go.Proofs.YtonglhkiobibgaaGreatDoor
open Go.RowKit
set_option maxRecDepth 100000
theorem take_snoc {α : Type} {l : List α} {k : Nat} {x : α} (h : l[k]? = some x) : l.take (k + 1) = l.take k ++ [x] := by
  obtain ⟨hk, rfl⟩ := List.getElem?_eq_some_iff.1 h
  rw [List.take_succ_eq_append_getElem hk]
end Go.Proofs.YtonglhkiobibgaaGreatDoor
namespace Go.Proofs.YtonglhkiobibgaaGreatDoor
open Go.RowKit
set_option maxRecDepth 100000
def okB (l : List Int) : Prop := ∀ x ∈ l, 0 ≤ x ∧ x < 256
theorem ASound.nil1 {P : Program} {f : FuncId} {fr : Bool} {rest : List AV} {nb : Nat} {am : AM} (h : ∀ A k, ASound P f (.v (.slice A 0 k) :: rest) nb am) : ASound P f (.fs fr [] 0 :: rest) nb am := by
  refine ⟨(h none 0).1, fun c us r R W hrun hr hfr hv => ?_⟩
  obtain ⟨u, us', rfl, h1, h2⟩ := hv
  obtain ⟨A, k, rfl, hk, _⟩ := h1
  exact (h A k).2 c _ r R W hrun hr hfr ⟨_, us', rfl, rfl, h2⟩
end Go.Proofs.YtonglhkiobibgaaGreatDoor
namespace Go.Proofs.YtonglhkiobibgaaGreatDoor
open Go.RowKit
set_option maxRecDepth 100000
theorem okB_drop {l : List Int} (h : okB l) (n : Nat) : okB (l.drop n) := fun x hx => h x (List.mem_of_mem_drop hx)
end Go.Proofs.YtonglhkiobibgaaGreatDoor
namespace Go.Proofs.YtonglhkiobibgaaGreatDoor
open Go.RowKit
/-- a number in groups of 7 bits -/
def gp (m : Nat) : List Int := if m < 128 then [(m : Int)] else ((m % 128 + 128 : Nat) : Int) :: gp (m / 128)
termination_by m
decreasing_by omega
/-- a number with its sign -/
def zz (n : Int) : Nat := if 0 ≤ n then (2 * n).toNat else (-2 * n - 1).toNat
def encT (t : List Int) : List Int := gp t.length ++ t
theorem u64_mod (x : Int) : IntKind.u64.wrap x = x % 18446744073709551616 := by simp [IntKind.wrap, IntKind.bits, IntKind.signed]
end Go.Proofs.YtonglhkiobibgaaGreatDoor
namespace Go.Proofs.YtonglhkiobibgaaGreatDoor
open Go.RowKit
set_option maxRecDepth 100000
end Go.Proofs.YtonglhkiobibgaaGreatDoor
namespace Go.Proofs.YtonglhkiobibgaaGreatDoor
open Go.RowKit
variable {P : Program} {c d : Cx}
mutual
/-- all labels say young; all names are S's -/
def Yg (S : Nat → Prop) : AV → Prop
  | .any | .v _ | .wv _ => True
  | .fs fr cs _ | .fp fr cs _ | .us fr _ cs _ => fr = true ∧ YgL S cs
  | .agg cs | .tup cs | .fn _ cs => YgL S cs
  | .ifc _ a => Yg S a
  | .os id _ _ _ | .op id _ | .mp id => S id
  | .ws _ _ | .wp _ => False
def YgL (S : Nat → Prop) : List AV → Prop
  | [] => True
  | a :: r => Yg S a ∧ YgL S r
end
theorem YgL_iff {S : Nat → Prop} : ∀ {l : List AV}, YgL S l ↔ ∀ a ∈ l, Yg S a
  | [] => by simp [YgL]
  | a :: r => by rw [YgL, YgL_iff (l := r)]; simp
mutual
theorem VR.yg {S : Nat → Prop} (hw : d.w = c.w) (hk : ∀ b, b < c.w.heap.size → c.ok true b → d.ok true b) (hn : ∀ i x, S i → c.φ i = some x → d.φ i = some x) : ∀ {a : AV} {u : Value}, Yg S a → VR c a u → VR d a u
  | .any, u, _, _ => trivial
  | .v x, u, _, k => k
  | .wv q, u, _, k => k
  | .fs fr cs n, u, q, k => by
    obtain ⟨A, k', rfl, hk', hm⟩ := k
    refine ⟨A, k', rfl, hk', fun h0 => ?_⟩
    obtain ⟨b, off, rfl, e1, e2, e3⟩ := hm h0
    obtain ⟨rfl, q2⟩ := q
    exact ⟨b, off, rfl, by rw [hw]; exact e1, hk b e1 e2, VRm.yg hw hk hn q2 e3⟩
  | .fp fr cs n, u, q, k => by
    obtain ⟨b, off, rfl, e1, e2, e3⟩ := k
    obtain ⟨rfl, q2⟩ := q
    exact ⟨b, off, rfl, by rw [hw]; exact e1, hk b e1 e2, VRm.yg hw hk hn q2 e3⟩
  | .us fr e cs n, u, q, k => by
    obtain ⟨A, k', rfl, hk', hm⟩ := k
    refine ⟨A, k', rfl, hk', fun h0 => ?_⟩
    obtain ⟨b, rfl, e2, ⟨vs, e1⟩, e3⟩ := hm h0
    obtain ⟨rfl, q2⟩ := q
    exact ⟨b, rfl, hk b (lt_of_blk e1) e2, ⟨vs, by rw [hw]; exact e1⟩, VRm.yg hw hk hn q2 e3⟩
  | .os id off n sz, u, q, k => by
    obtain ⟨A, k', rfl, hk', hm⟩ := k
    refine ⟨A, k', rfl, hk', ?_⟩
    rcases hm with ⟨h1, h2⟩ | ⟨b, h1, rfl, cs, e, f, h2, h3⟩
    · obtain ⟨x, hx⟩ := Option.ne_none_iff_exists'.1 h1
      exact .inl ⟨by rw [hn _ _ q hx]; simp, h2⟩
    · exact .inr ⟨b, hn _ _ q h1, rfl, cs, e, f, by rw [hw]; exact h2, h3⟩
  | .op id off, u, q, k => by
    obtain ⟨b, h1, rfl, h2⟩ := k
    exact ⟨b, hn _ _ q h1, rfl, by rw [hw]; exact h2⟩
  | .mp id, u, q, k => by
    obtain ⟨b, h1, rfl⟩ := k
    exact ⟨b, hn _ _ q h1, rfl⟩
  | .ifc t a, u, q, k => by obtain ⟨v, rfl, k⟩ := k; exact ⟨v, rfl, VR.yg hw hk hn (a := a) q k⟩
  | .agg l, u, q, k => by obtain ⟨us, rfl, k⟩ := k; exact ⟨us, rfl, VRl.yg hw hk hn q k⟩
  | .tup l, u, q, k => by obtain ⟨us, rfl, k⟩ := k; exact ⟨us, rfl, VRt.yg hw hk hn q k⟩
  | .fn f l, u, q, k => by obtain ⟨us, rfl, k⟩ := k; exact ⟨us, rfl, VRt.yg hw hk hn q k⟩
theorem VRm.yg {S : Nat → Prop} (hw : d.w = c.w) (hk : ∀ b, b < c.w.heap.size → c.ok true b → d.ok true b) (hn : ∀ i x, S i → c.φ i = some x → d.φ i = some x) {b : Nat} : ∀ {cs : List AV} {off : Nat}, YgL S cs → VRm c b off cs → VRm d b off cs
  | [], _, _, _ => trivial
  | a :: r, off, q, k => by
    rw [VRm] at k ⊢
    obtain ⟨⟨u, h1, h2, h3⟩, h4⟩ := k
    exact ⟨⟨u, by rw [hw]; exact h1, h2, VR.yg hw hk hn q.1 h3⟩, VRm.yg hw hk hn q.2 h4⟩
theorem VRl.yg {S : Nat → Prop} (hw : d.w = c.w) (hk : ∀ b, b < c.w.heap.size → c.ok true b → d.ok true b) (hn : ∀ i x, S i → c.φ i = some x → d.φ i = some x) : ∀ {cs : List AV} {us : List Value}, YgL S cs → VRl c cs us → VRl d cs us
  | [], _, _, k => k
  | a :: r, us, q, k => by
    rw [VRl] at k ⊢
    obtain ⟨u, us', rfl, h1, h2, h3⟩ := k
    exact ⟨u, us', rfl, h1, VR.yg hw hk hn q.1 h2, VRl.yg hw hk hn q.2 h3⟩
theorem VRt.yg {S : Nat → Prop} (hw : d.w = c.w) (hk : ∀ b, b < c.w.heap.size → c.ok true b → d.ok true b) (hn : ∀ i x, S i → c.φ i = some x → d.φ i = some x) : ∀ {cs : List AV} {us : List Value}, YgL S cs → VRt c cs us → VRt d cs us
  | [], _, _, k => k
  | a :: r, us, q, k => by
    rw [VRt] at k ⊢
    obtain ⟨u, us', rfl, h2, h3⟩ := k
    exact ⟨u, us', rfl, VR.yg hw hk hn q.1 h2, VRt.yg hw hk hn q.2 h3⟩
end
mutual
/-- what is known of it, as old data -/
def od : AV → AV
  | .any => .any
  | .v x => .v x
  | .wv k => .wv k
  | .fs _ cs n => .fs false (odL cs) n
  | .fp _ cs n => .fp false (odL cs) n
  | .us _ e cs n => .us false e (odL cs) n
  | .agg l => .agg (odL l)
  | .tup l => .tup (odL l)
  | .fn f l => .fn f (odL l)
  | .ifc t a => .ifc t (od a)
  | .os _ _ _ _ | .op _ _ | .mp _ | .ws _ _ | .wp _ => .any
def odL : List AV → List AV
  | [] => []
  | a :: r => od a :: odL r
end
mutual
theorem VR.od (hw : d.w = c.w) (hk : ∀ fr b, b < c.w.heap.size → c.ok fr b → d.ok false b) : ∀ {a : AV} {u : Value}, VR c a u → VR d (od a) u
  | .any, u, _ => trivial
  | .v x, u, k => k
  | .wv q, u, k => k
  | .ws _ _, u, _ => trivial
  | .wp _, u, _ => trivial
  | .mp _, u, _ => trivial
  | .os _ _ _ _, u, _ => trivial
  | .op _ _, u, _ => trivial
  | .fs fr cs n, u, k => by
    obtain ⟨A, k', rfl, hk', hm⟩ := k
    refine ⟨A, k', rfl, hk', fun h0 => ?_⟩
    obtain ⟨b, off, rfl, e1, e2, e3⟩ := hm h0
    exact ⟨b, off, rfl, by rw [hw]; exact e1, hk fr b e1 e2, VRm.od hw hk e3⟩
  | .fp fr cs n, u, k => by
    obtain ⟨b, off, rfl, e1, e2, e3⟩ := k
    exact ⟨b, off, rfl, by rw [hw]; exact e1, hk fr b e1 e2, VRm.od hw hk e3⟩
  | .us fr e cs n, u, k => by
    obtain ⟨A, k', rfl, hk', hm⟩ := k
    refine ⟨A, k', rfl, hk', fun h0 => ?_⟩
    obtain ⟨b, rfl, e2, ⟨vs, e1⟩, e3⟩ := hm h0
    exact ⟨b, rfl, hk fr b (lt_of_blk e1) e2, ⟨vs, by rw [hw]; exact e1⟩, VRm.od hw hk e3⟩
  | .ifc t a, u, k => by obtain ⟨v, rfl, k⟩ := k; exact ⟨v, rfl, VR.od hw hk (a := a) k⟩
  | .agg l, u, k => by obtain ⟨us, rfl, k⟩ := k; exact ⟨us, rfl, VRl.od hw hk k⟩
  | .tup l, u, k => by obtain ⟨us, rfl, k⟩ := k; exact ⟨us, rfl, VRt.od hw hk k⟩
  | .fn f l, u, k => by obtain ⟨us, rfl, k⟩ := k; exact ⟨us, rfl, VRt.od hw hk k⟩
theorem VRm.od (hw : d.w = c.w) (hk : ∀ fr b, b < c.w.heap.size → c.ok fr b → d.ok false b) {b : Nat} : ∀ {cs : List AV} {off : Nat}, VRm c b off cs → VRm d b off (odL cs)
  | [], _, _ => trivial
  | a :: r, off, k => by
    rw [VRm] at k
    rw [odL, VRm]
    obtain ⟨⟨u, h1, h2, h3⟩, h4⟩ := k
    exact ⟨⟨u, by rw [hw]; exact h1, h2, VR.od hw hk h3⟩, VRm.od hw hk h4⟩
theorem VRl.od (hw : d.w = c.w) (hk : ∀ fr b, b < c.w.heap.size → c.ok fr b → d.ok false b) : ∀ {cs : List AV} {us : List Value}, VRl c cs us → VRl d (odL cs) us
  | [], _, k => k
  | a :: r, us, k => by
    rw [VRl] at k
    rw [odL, VRl]
    obtain ⟨u, us', rfl, h1, h2, h3⟩ := k
    exact ⟨u, us', rfl, h1, VR.od hw hk h2, VRl.od hw hk h3⟩
theorem VRt.od (hw : d.w = c.w) (hk : ∀ fr b, b < c.w.heap.size → c.ok fr b → d.ok false b) : ∀ {cs : List AV} {us : List Value}, VRt c cs us → VRt d (odL cs) us
  | [], _, k => k
  | a :: r, us, k => by
    rw [VRt] at k
    rw [odL, VRt]
    obtain ⟨u, us', rfl, h2, h3⟩ := k
    exact ⟨u, us', rfl, VR.od hw hk h2, VRt.od hw hk h3⟩
end
def cellsAt : List RW → Nat → Option (List AV)
  | [], _ => none
  | x :: r, id => if id = x.1 then some x.2.2.2 else cellsAt r id
theorem cellsAt_mem : ∀ {rws : List RW} {id : Nat} {cs : List AV}, cellsAt rws id = some cs → ∃ (j : Nat) (x : RW), rws[j]? = some x ∧ x.1 = id ∧ x.2.2.2 = cs
  | [], _, _, h => by cases h
  | x :: r, id, cs, h => by
    rw [cellsAt] at h
    split at h
    · rename_i e; cases h; exact ⟨0, x, rfl, e.symm, rfl⟩
    · obtain ⟨j, y, h1, h2⟩ := cellsAt_mem h
      exact ⟨j + 1, y, by simpa using h1, h2⟩
section
variable {rws : List RW}
end
/-- the rows that a contract leaves -/
def newW (nb : Nat) (ws : List (Bool × Nat × List AV)) : List (Nat × Option AObj) := (ws.zipIdx nb).map fun x => (x.2, some (AObj.row x.1.1 x.1.2.1 x.1.2.2))
end Go.Proofs.YtonglhkiobibgaaGreatDoor
namespace Go.Proofs.YtonglhkiobibgaaGreatDoor
open Go.RowKit
set_option maxRecDepth 100000
end Go.Proofs.YtonglhkiobibgaaGreatDoor
namespace Go.Proofs.YtonglhkiobibgaaGreatDoor
open Go.RowKit
set_option maxRecDepth 100000
theorem yg_B {S : Nat → Prop} (l : List Int) : YgL S (eB l) := by
  rw [YgL_iff]; intro a ha
  obtain ⟨x, _, rfl⟩ := List.mem_map.1 ha
  trivial
def numB (ns : List Int) : List Int := ns.flatMap fun n => gp (zz n)
def txtB (ts : List (List Int)) : List Int := ts.flatMap encT
/-- what is written before the number i -/
def h1 (r : Rec) (i : Nat) : List Int := [r.kind, (r.nums.length : Int)] ++ numB (r.nums.take i)
/-- what is written before the text i -/
def h2 (r : Rec) (i : Nat) : List Int := h1 r r.nums.length ++ [(r.texts.length : Int)] ++ txtB (r.texts.take i)
end Go.Proofs.YtonglhkiobibgaaGreatDoor
namespace Go.Proofs.YtonglhkiobibgaaGreatDoor
open Go.RowKit
set_option maxRecDepth 100000
end Go.Proofs.YtonglhkiobibgaaGreatDoor
namespace Go.Proofs.YtonglhkiobibgaaGreatDoor
open Go.RowKit
set_option maxRecDepth 100000
end Go.Proofs.YtonglhkiobibgaaGreatDoor
namespace Go.Proofs.YtonglhkiobibgaaGreatDoor
open Go.RowKit
set_option maxRecDepth 100000
end Go.Proofs.YtonglhkiobibgaaGreatDoor
namespace Go.Proofs.YtonglhkiobibgaaGreatDoor
open Go.RowKit
end Go.Proofs.YtonglhkiobibgaaGreatDoor
namespace Go.Proofs.YtonglhkiobibgaaGreatDoor
open Go.RowKit
set_option maxRecDepth 100000
end Go.Proofs.YtonglhkiobibgaaGreatDoor
namespace Go.Proofs.YtonglhkiobibgaaGreatDoor
open Go.RowKit
set_option maxRecDepth 100000
theorem setN_app : ∀ {r l : List AV} {off : Nat}, off + r.length ≤ l.length → setN l off r = l.take off ++ r ++ l.drop (off + r.length)
  | [], l, off, h => by simp [setN]
  | a :: r, l, off, h => by
    have h2 : off < l.length := by rw [List.length_cons] at h; omega
    rw [setN, setN_app (by rw [List.length_set, List.length_cons] at *; omega)]
    have e : l.set off a = l.take off ++ [a] ++ l.drop (off + 1) := by rw [List.set_eq_take_append_cons_drop, if_pos h2]; simp
    have hA : (l.take off ++ [a]).length = off + 1 := by simp; omega
    rw [e, List.take_left' hA, List.drop_append, hA, Nat.add_sub_cancel_left, List.drop_drop, List.drop_of_length_le (by rw [hA]; omega), List.length_cons, show off + 1 + r.length = off + (r.length + 1) from by omega]
    simp
theorem rep_B (n : Nat) : (List.replicate n [AV.v (.int .u8 0)]).flatten = eB (List.replicate n 0) := by
  induction n with
  | zero => rfl
  | succ n ih => rw [List.replicate_succ, List.flatten_cons, ih]; rfl
theorem setN_B {l b : List Int} (h : b.length ≤ l.length) : setN (eB l) 0 (eB b) = eB (b ++ l.drop b.length) := by
  rw [setN_app (by rw [len_B, len_B]; omega), len_B, List.take_zero, List.nil_append, Nat.zero_add, drop_B, app_B]
end Go.Proofs.YtonglhkiobibgaaGreatDoor
namespace Go.Proofs.YtonglhkiobibgaaGreatDoor
open Go.RowKit
variable {P : Program} {c d : Cx} {rws : List RW}
theorem ASound.borrowG {f : FuncId} {args args' : List AV} {nb : Nat} {r : AV} (ws : List (Bool × Nat × List AV)) (rws : List RW)
    (H : ∀ (c d : Cx), HR c → (∀ (j : Nat) (x : RW), rws[j]? = some x → c.σ x.1 = some (.row x.2.1 x.2.2.1 x.2.2.2)) → d.w = c.w → (∀ fr b, b < c.w.heap.size → c.ok fr b → d.ok false b) → (∀ (j : Nat) (x : RW) b, rws[j]? = some x → c.φ x.1 = some (some b) → d.ok false b) → ∀ us, VRt c args us → VRt d args' us)
    (h : ASound P f args' nb (.ret r (newW nb ws))) (hfew : ws.length ≤ 100000)
    (hy : Yg (fun i => nb ≤ i ∧ i < nb + ws.length) r) (hyw : ∀ x ∈ ws, YgL (fun i => nb ≤ i ∧ i < nb + ws.length) x.2.2) : ASound P f args nb (rowsM rws (.ret r (newW nb ws))) := by
  refine ⟨h.1, fun c us r' R W' hrun hr hfr hv => ?_⟩
  obtain ⟨hσ, R', hrun2⟩ := rowsM_run hrun
  simp [AM.run] at hrun2
  obtain ⟨rfl, _, rfl⟩ := hrun2
  clear hrun
  obtain ⟨Yx, Yx_pos, Yx_neg⟩ := c.yx
  have Tlt : ∀ b, c.T b → b < c.w.heap.size := by
    rintro b ⟨i, ⟨y', e', cl⟩, e1, e2⟩
    rcases hr.row i y' e' cl e1 with ⟨g1, _⟩ | ⟨b', cs, g1, g2, _⟩
    · rw [e2] at g1; cases g1
    · rw [e2] at g1; cases g1; exact g2.lt
  generalize hc1 : (⟨c.w, c.w.heap.size, fun _ => none, fun _ => none, fun b => (c.T b ∧ ∀ (j : Nat) (x : RW), rws[j]? = some x → c.φ x.1 ≠ some (some b)) ∨ c.X b, Yx⟩ : Cx) = c1
  have w1 : c1.w = c.w := by rw [← hc1]
  have B1 : c1.B = c.w.heap.size := by rw [← hc1]
  have σ1 : c1.σ = fun _ => none := by rw [← hc1]
  have φ1 : c1.φ = fun _ => none := by rw [← hc1]
  have X1 : ∀ b, c1.X b ↔ ((c.T b ∧ ∀ (j : Nat) (x : RW), rws[j]? = some x → c.φ x.1 ≠ some (some b)) ∨ c.X b) := by rw [← hc1]; intro b; rfl
  have Y1 : c1.Y = Yx := by rw [← hc1]
  have T1 : ∀ b, ¬ c1.T b := by rintro b ⟨id, o, e1, _⟩; rw [σ1] at e1; cases e1
  have hx1 : ∀ b, c1.X b → b < c1.w.heap.size := by
    intro b hb
    rw [w1]
    rcases (X1 b).1 hb with h9 | h9
    · exact Tlt b h9.1
    · exact hr.xlt b h9
  have hr1 : HR c1 := ⟨fun id y e cells hs => (by rw [σ1] at hs; cases hs), fun id id' b e1 => (by rw [σ1] at e1; exact absurd rfl e1), (by rw [B1, w1]; exact Nat.le_refl _), hx1, hr.gl.to fun b _ h2 h3 => ⟨by rw [w1], T1 b, fun _ => by
      rw [Y1]
      by_cases hx : c.X b
      · rw [Yx_pos _ hx]; exact h3 hx
      · exact Yx_neg _ hx⟩⟩
  have hv1 : VRt c1 args' us := by
    refine H c c1 hr hσ w1 (fun fr b _ ho => ⟨fun h => (by cases h), T1 b, ?_⟩) (fun j x b h1 h2 => ⟨fun h => (by cases h), T1 b, ?_⟩) us hv
    · rw [X1]; rintro (h9 | h9)
      · exact ho.2.1 h9.1
      · exact ho.2.2 h9
    · rw [X1]; rintro (h9 | h9)
      · exact h9.2 j x h1 h2
      · exact hr.TX ⟨x.1, _, hσ j x h1, h2⟩ h9
  have hk9 := h.2 c1 us r [] (newW nb ws) rfl hr1 (fun id _ => .inl (by rw [φ1])) hv1
  rw [w1] at hk9
  refine hk9.mono ?_
  rintro e w' ⟨v, d1, rfl, rfl, hv2, T2⟩
  have G := T2.grow
  have dσ1 : ∀ i, d1.σ i = if nb ≤ i then (match ws[i - nb]? with | some x => some (.row x.1 x.2.1 x.2.2) | none => none) else none := by
    intro i
    rw [T2.σ, σ1, newW, app_rows]
    cases ws[i - nb]? <;> rfl
  generalize hd : (⟨d1.w, c.B, fun i => if nb ≤ i ∧ i < nb + ws.length then d1.φ i else c.φ i, app c.σ (newW nb ws), c.X, c.Y⟩ : Cx) = d
  have dw : d.w = d1.w := by rw [← hd]
  have dB : d.B = c.B := by rw [← hd]
  have dX : d.X = c.X := by rw [← hd]
  have dY : d.Y = c.Y := by rw [← hd]
  have dφ : ∀ i, d.φ i = if nb ≤ i ∧ i < nb + ws.length then d1.φ i else c.φ i := by rw [← hd]; intro i; rfl
  have dσ : ∀ i, d.σ i = if nb ≤ i then (match ws[i - nb]? with | some x => some (.row x.1 x.2.1 x.2.2) | none => c.σ i) else c.σ i := by
    intro i
    rw [← hd]
    show app c.σ (newW nb ws) i = _
    rw [newW, app_rows]
    cases ws[i - nb]? <;> rfl
  have stay : ∀ b, b < c.w.heap.size → (c.X b → c.Y b = .no) → d.w.heap[b]? = c.w.heap[b]? := fun b hb hy => by
    rw [dw]
    have := G.stay b (by rw [w1]; exact hb) (T1 b) (fun _ => by
      rw [Y1]
      by_cases hx : c.X b
      · rw [Yx_pos _ hx]; exact hy hx
      · exact Yx_neg _ hx)
    rw [this, w1]
  have size : c.w.heap.size ≤ d.w.heap.size := by rw [dw, ← w1]; exact G.size
  have newT : ∀ b, d1.T b → c.w.heap.size ≤ b := fun b hb => by
    rcases G.held b hb with h9 | h9
    · exact absurd h9 (T1 b)
    · rw [← w1]; exact h9
  have names : Names c d := by
    intro i x hx
    rw [dφ]
    by_cases h1 : nb ≤ i ∧ i < nb + ws.length
    · rcases hfr i h1.1 with h2 | h2
      · rw [h2] at hx; cases hx
      · omega
    · rw [if_neg h1]; exact hx
  have dlive : ∀ i o, d.σ i = some o → (c.σ i = some o ∧ d.φ i = c.φ i ∧ ¬ (nb ≤ i ∧ i < nb + ws.length)) ∨ (nb ≤ i ∧ i < nb + ws.length ∧ d1.σ i = some o ∧ d.φ i = d1.φ i ∧ ∃ x ∈ ws, o = .row x.1 x.2.1 x.2.2) := by
    intro i o ho
    by_cases h1 : nb ≤ i ∧ i < nb + ws.length
    · right
      have h2 : i - nb < ws.length := by omega
      rw [dσ, if_pos h1.1, List.getElem?_eq_getElem h2] at ho
      exact ⟨h1.1, h1.2, by rw [dσ1, if_pos h1.1, List.getElem?_eq_getElem h2]; exact ho, by rw [dφ, if_pos h1], _, List.getElem_mem h2, by simp at ho; exact ho.symm⟩
    · left
      refine ⟨?_, by rw [dφ, if_neg h1], h1⟩
      rw [dσ] at ho
      by_cases h2 : nb ≤ i
      · rw [if_pos h2, List.getElem?_eq_none_iff.2 (by omega)] at ho; exact ho
      · rw [if_neg h2] at ho; exact ho
  have dT : ∀ b, d.T b → c.T b ∨ (c.w.heap.size ≤ b ∧ d1.T b) := by
    rintro b ⟨i, o, e1, e2⟩
    rcases dlive i o e1 with ⟨f1, f2, _⟩ | ⟨_, _, f3, f4, _⟩
    · exact .inl ⟨i, o, f1, by rw [← f2]; exact e2⟩
    · rw [f4] at e2
      exact .inr ⟨newT b ⟨i, o, f3, e2⟩, i, o, f3, e2⟩
  have grow : Grow c d := by
    refine ⟨dX, dB, ?_, ?_, ?_, size, fun b hb _ hy => stay b hb hy, fun b hb => (dT b hb).imp id (·.1), fun b cs e f hb => (by have := G.shape b cs e f (by rw [w1]; exact hb); rw [dw]; exact this), dY, fun b k sz h1 h2 h3 h4 h5 => (by
      have := G.wild b k sz (T1 b) (by rw [X1]; exact .inr h2) (by rw [Y1, Yx_pos _ h2]; exact h3) h4 (by rw [w1]; exact h5)
      rw [dw]; exact this)⟩
    · rw [dw, G.out, w1]
    · rw [dw, G.osE, w1]
    · rw [dw, G.tape, w1]
  have base := hr.base
  have ok2 : ∀ b, b < d1.w.heap.size → d1.ok true b → d.ok true b := fun b _ ho => by
    have hge : c.w.heap.size ≤ b := by have := ho.1 rfl; rw [G.B, B1] at this; exact this
    refine ⟨fun _ => by rw [dB]; omega, fun ht => ?_, fun hx => ?_⟩
    · rcases dT b ht with h9 | h9
      · have := Tlt b h9; omega
      · exact ho.2.1 h9.2
    · rw [dX] at hx; have := hr.xlt b hx; omega
  have nm2 : ∀ i x, (nb ≤ i ∧ i < nb + ws.length) → d1.φ i = some x → d.φ i = some x := fun i x h1 h2 => by rw [dφ, if_pos h1]; exact h2
  have hrd : HR d := by
    refine ⟨fun i y2 e2 cl hs => ?_, fun i i' b e1 e2 e3 e4 => ?_, by rw [dB]; exact Nat.le_trans hr.base size, fun b hb => by rw [dX] at hb; exact Nat.lt_of_lt_of_le (hr.xlt b hb) size, hr.gl.grow grow⟩
    · rcases dlive i _ hs with ⟨f1, f2, _⟩ | ⟨h1, h2, f3, f4, x, hx, f5⟩
      · rcases hr.row i y2 e2 cl f1 with ⟨g1, g2⟩ | ⟨b, cs, g1, g2, g3', g4, g5⟩
        · exact .inl ⟨by rw [f2]; exact g1, g2⟩
        · refine .inr ⟨b, cs, by rw [f2]; exact g1, g2.of (stay b g2.lt (fun h9 => absurd h9 g3'.2)), ⟨by rw [dB]; exact g3'.1, by rw [dX]; exact g3'.2⟩, g4, fun j x hj => ?_⟩
          obtain ⟨q, k1, k2, k3⟩ := g5 j x hj
          exact ⟨q, k1, k2, k3.mono grow names⟩
      · cases f5
        rcases T2.hr.row i _ _ _ f3 with ⟨g1, g2⟩ | ⟨b, cs, g1, g2, g3', g4, g5⟩
        · exact .inl ⟨by rw [f4]; exact g1, g2⟩
        · have hge := newT b ⟨i, _, f3, g1⟩
          refine .inr ⟨b, cs, by rw [f4]; exact g1, by rw [dw]; exact g2, ⟨fun _ => by rw [dB]; omega, fun hx2 => by rw [dX] at hx2; have := hr.xlt b hx2; omega⟩, g4, fun j x' hj => ?_⟩
          obtain ⟨q, m1, m2, m3⟩ := g5 j x' hj
          exact ⟨q, m1, m2, VR.yg dw ok2 nm2 (YgL_iff.1 (hyw x hx) x' (List.mem_of_getElem? hj)) m3⟩
    · obtain ⟨o1, ho1⟩ := Option.ne_none_iff_exists'.1 e1
      obtain ⟨o2, ho2⟩ := Option.ne_none_iff_exists'.1 e2
      rcases dlive i o1 ho1 with ⟨f1, f2, _⟩ | ⟨_, _, f3, f4, _⟩ <;> rcases dlive i' o2 ho2 with ⟨j1, j2, _⟩ | ⟨_, _, j3, j4, _⟩
      · exact hr.inj i i' b (by rw [f1]; simp) (by rw [j1]; simp) (by rw [← f2]; exact e3) (by rw [← j2]; exact e4)
      · rw [j4] at e4
        have := newT b ⟨i', _, j3, e4⟩
        have := Tlt b ⟨i, _, f1, by rw [← f2]; exact e3⟩
        omega
      · rw [f4] at e3
        have := newT b ⟨i, _, f3, e3⟩
        have := Tlt b ⟨i', _, j1, by rw [← j2]; exact e4⟩
        omega
      · rw [f4] at e3
        rw [j4] at e4
        exact T2.hr.inj i i' b (by rw [f3]; simp) (by rw [j3]; simp) e3 e4
  exact ⟨v, d, rfl, dw, VR.yg dw ok2 nm2 hy hv2, grow, names, hrd, by rw [← hd], fun i hi => by
    rw [dφ] at hi
    by_cases h1 : nb ≤ i ∧ i < nb + ws.length
    · exact .inr (by omega)
    · rw [if_neg h1] at hi; exact .inl hi⟩

end Go.Proofs.YtonglhkiobibgaaGreatDoor
namespace Go.Proofs.YtonglhkiobibgaaGreatDoor
open Go.RowKit
variable {P : Program} {c d : Cx} {rws : List RW}
mutual
/-- a value, its rows as data; f says what becomes of a row's cells -/
def boW (f : List AV → List AV) (rws : List RW) : AV → AV
  | .os id off n sz => match cellsAt rws id with | some cs => .fs false (f ((cs.drop off).take (n * sz))) n | none => .any
  | .op id off => match cellsAt rws id with | some cs => .fp false (f cs) off | none => .any
  | .agg l => .agg (boWL f rws l)
  | .fn g l => .fn g (boWL f rws l)
  | .ifc t a => .ifc t (boW f rws a)
  | a => od a
def boWL (f : List AV → List AV) (rws : List RW) : List AV → List AV
  | [] => []
  | a :: r => boW f rws a :: boWL f rws r
end
def boDL : Nat → List RW → List AV → List AV
  | 0, _, l => odL l
  | k + 1, rws, l => boWL (boDL k rws) rws l
section
variable {f : List AV → List AV}
theorem VRm.part {b : Nat} {cs : List AV} {off m : Nat} (h : VRm c b 0 cs) : VRm c b off ((cs.drop off).take m) := by
  rw [VRm_iff] at h ⊢
  intro j a hj
  rw [List.getElem?_take] at hj
  split at hj
  · rw [List.getElem?_drop] at hj
    have := h _ _ hj
    rwa [Nat.zero_add] at this
  · cases hj
theorem HR.rowm (hr : HR c) {x : RW} (hσ : c.σ x.1 = some (.row x.2.1 x.2.2.1 x.2.2.2)) {b : Nat} (hφ : c.φ x.1 = some (some b)) (hcl : ∃ vs e' f, c.w.heap[b]? = some (Obj.cells vs e' f)) : VRm c b 0 x.2.2.2 ∧ b < c.w.heap.size := by
  rcases hr.row x.1 _ _ _ hσ with ⟨h2, _⟩ | ⟨b', vs, g1, g2, g3, g4, g5⟩
  · rw [hφ] at h2; cases h2
  · rw [hφ] at g1; cases g1
    refine ⟨VRm_iff.2 fun q a hq => ?_, g2.lt⟩
    replace g2 := g2.cells hcl
    obtain ⟨u, k1, k2, k3⟩ := g5 q a hq
    exact ⟨u, by rw [Nat.zero_add]; simp [World.cell?, g2, k1], k2, k3⟩
mutual
theorem VR.boW (hr : HR c) (hσ : ∀ (j : Nat) (x : RW), rws[j]? = some x → c.σ x.1 = some (.row x.2.1 x.2.2.1 x.2.2.2)) (hw : d.w = c.w) (hk : ∀ fr b, b < c.w.heap.size → c.ok fr b → d.ok false b)
    (hrow : ∀ (j : Nat) (x : RW) b, rws[j]? = some x → c.φ x.1 = some (some b) → d.ok false b) (hf : ∀ {b off : Nat} {cs : List AV}, VRm c b off cs → VRm d b off (f cs)) : ∀ {a : AV} {u : Value}, VR c a u → VR d (boW f rws a) u
  | .os id off n sz, u, k => by
    unfold Go.Proofs.YtonglhkiobibgaaGreatDoor.boW
    cases hc : cellsAt rws id with
    | none => trivial
    | some cs =>
      obtain ⟨j, x, h1, rfl, rfl⟩ := cellsAt_mem hc
      obtain ⟨A, k', rfl, hk', hm⟩ := k
      refine ⟨A, k', rfl, hk', fun h0 => ?_⟩
      rcases hm with ⟨_, h2⟩ | ⟨b, h2, rfl, cs9, e9, f9, h9, _⟩
      · omega
      · obtain ⟨g1, g2⟩ := hr.rowm (hσ j x h1) h2 ⟨_, _, _, h9⟩
        exact ⟨b, off, rfl, by rw [hw]; exact g2, hrow j x b h1 h2, hf g1.part⟩
  | .op id off, u, k => by
    unfold Go.Proofs.YtonglhkiobibgaaGreatDoor.boW
    cases hc : cellsAt rws id with
    | none => trivial
    | some cs =>
      obtain ⟨j, x, h1, rfl, rfl⟩ := cellsAt_mem hc
      obtain ⟨b, h2, rfl, hcl⟩ := k
      obtain ⟨g1, g2⟩ := hr.rowm (hσ j x h1) h2 hcl
      exact ⟨b, 0, by rw [Nat.zero_add], by rw [hw]; exact g2, hrow j x b h1 h2, hf g1⟩
  | .agg l, u, k => by obtain ⟨us, rfl, k⟩ := k; exact ⟨us, rfl, VRl.boW hr hσ hw hk hrow hf k⟩
  | .ifc t a, u, k => by obtain ⟨v, rfl, k⟩ := k; exact ⟨v, rfl, VR.boW hr hσ hw hk hrow hf (a := a) k⟩
  | .fn g l, u, k => by obtain ⟨us, rfl, k⟩ := k; exact ⟨us, rfl, VRt.boW hr hσ hw hk hrow hf k⟩
  | .any, u, k => VR.od hw hk (a := .any) k
  | .v x, u, k => VR.od hw hk (a := .v x) k
  | .wv x, u, k => VR.od hw hk (a := .wv x) k
  | .ws x n, u, k => VR.od hw hk (a := .ws x n) k
  | .wp x, u, k => VR.od hw hk (a := .wp x) k
  | .mp x, u, k => VR.od hw hk (a := .mp x) k
  | .fs fr cs n, u, k => VR.od hw hk (a := .fs fr cs n) k
  | .fp fr cs n, u, k => VR.od hw hk (a := .fp fr cs n) k
  | .us fr e cs n, u, k => VR.od hw hk (a := .us fr e cs n) k
  | .tup l, u, k => VR.od hw hk (a := .tup l) k
theorem VRl.boW (hr : HR c) (hσ : ∀ (j : Nat) (x : RW), rws[j]? = some x → c.σ x.1 = some (.row x.2.1 x.2.2.1 x.2.2.2)) (hw : d.w = c.w) (hk : ∀ fr b, b < c.w.heap.size → c.ok fr b → d.ok false b)
    (hrow : ∀ (j : Nat) (x : RW) b, rws[j]? = some x → c.φ x.1 = some (some b) → d.ok false b) (hf : ∀ {b off : Nat} {cs : List AV}, VRm c b off cs → VRm d b off (f cs)) : ∀ {cs : List AV} {us : List Value}, VRl c cs us → VRl d (boWL f rws cs) us
  | [], _, k => k
  | a :: r, us, k => by
    rw [VRl] at k
    rw [boWL, VRl]
    obtain ⟨u, us', rfl, h1, h2, h3⟩ := k
    exact ⟨u, us', rfl, h1, VR.boW hr hσ hw hk hrow hf h2, VRl.boW hr hσ hw hk hrow hf h3⟩
theorem VRt.boW (hr : HR c) (hσ : ∀ (j : Nat) (x : RW), rws[j]? = some x → c.σ x.1 = some (.row x.2.1 x.2.2.1 x.2.2.2)) (hw : d.w = c.w) (hk : ∀ fr b, b < c.w.heap.size → c.ok fr b → d.ok false b)
    (hrow : ∀ (j : Nat) (x : RW) b, rws[j]? = some x → c.φ x.1 = some (some b) → d.ok false b) (hf : ∀ {b off : Nat} {cs : List AV}, VRm c b off cs → VRm d b off (f cs)) : ∀ {cs : List AV} {us : List Value}, VRt c cs us → VRt d (boWL f rws cs) us
  | [], _, k => k
  | a :: r, us, k => by
    rw [VRt] at k
    rw [boWL, VRt]
    obtain ⟨u, us', rfl, h2, h3⟩ := k
    exact ⟨u, us', rfl, VR.boW hr hσ hw hk hrow hf h2, VRt.boW hr hσ hw hk hrow hf h3⟩
end
theorem VRm.boW (hr : HR c) (hσ : ∀ (j : Nat) (x : RW), rws[j]? = some x → c.σ x.1 = some (.row x.2.1 x.2.2.1 x.2.2.2)) (hw : d.w = c.w) (hk : ∀ fr b, b < c.w.heap.size → c.ok fr b → d.ok false b)
    (hrow : ∀ (j : Nat) (x : RW) b, rws[j]? = some x → c.φ x.1 = some (some b) → d.ok false b) (hf : ∀ {b off : Nat} {cs : List AV}, VRm c b off cs → VRm d b off (f cs)) {b : Nat} : ∀ {cs : List AV} {off : Nat}, VRm c b off cs → VRm d b off (boWL f rws cs)
  | [], _, _ => trivial
  | a :: r, off, k => by
    rw [VRm] at k
    rw [boWL, VRm]
    obtain ⟨⟨u, h1, h2, h3⟩, h4⟩ := k
    exact ⟨⟨u, by rw [hw]; exact h1, h2, VR.boW hr hσ hw hk hrow hf h3⟩, VRm.boW hr hσ hw hk hrow hf h4⟩
end
theorem VRm.boDL (hr : HR c) (hσ : ∀ (j : Nat) (x : RW), rws[j]? = some x → c.σ x.1 = some (.row x.2.1 x.2.2.1 x.2.2.2)) (hw : d.w = c.w) (hk : ∀ fr b, b < c.w.heap.size → c.ok fr b → d.ok false b)
    (hrow : ∀ (j : Nat) (x : RW) b, rws[j]? = some x → c.φ x.1 = some (some b) → d.ok false b) : ∀ (k : Nat) {b off : Nat} {cs : List AV}, VRm c b off cs → VRm d b off (boDL k rws cs)
  | 0, _, _, _, h => VRm.od hw hk h
  | k + 1, _, _, _, h => VRm.boW hr hσ hw hk hrow (fun h => VRm.boDL hr hσ hw hk hrow k h) h
/-- a contract that asks for data, used with what the caller holds: its rows, k deep, as data -/
theorem ASound.borrowD (k : Nat) {f : FuncId} {args : List AV} {nb : Nat} {r : AV} (ws : List (Bool × Nat × List AV)) (rws : List RW) (h : ASound P f (boDL (k + 1) rws args) nb (.ret r (newW nb ws))) (hfew : ws.length ≤ 100000)
    (hy : Yg (fun i => nb ≤ i ∧ i < nb + ws.length) r) (hyw : ∀ x ∈ ws, YgL (fun i => nb ≤ i ∧ i < nb + ws.length) x.2.2) : ASound P f args nb (rowsM rws (.ret r (newW nb ws))) :=
  ASound.borrowG ws rws (fun c d hr hσ hw hk hrow us hv => VRt.boW hr hσ hw hk hrow (fun h => VRm.boDL hr hσ hw hk hrow k h) hv) h hfew hy hyw
end Go.Proofs.YtonglhkiobibgaaGreatDoor
namespace Go.Proofs.YtonglhkiobibgaaGreatDoor
open Go.RowKit
set_option maxRecDepth 100000
theorem ASound.args {P : Program} {f : FuncId} {args args' : List AV} {nb : Nat} {am : AM} (h : ASound P f args nb am) (hi : ImpL args' args) : ASound P f args' nb am :=
  ⟨h.1, fun c us r R W hrun hr hfr hv => h.2 c us r R W hrun hr hfr (by
    obtain ⟨e1, e2⟩ := ImpL_get hi
    rw [VRt_iff] at hv ⊢
    refine ⟨by omega, fun j a hj => ?_⟩
    obtain ⟨x, hx, hix⟩ := e2 j a hj
    obtain ⟨u, k1, k2⟩ := hv.2 j x hx
    exact ⟨u, k1, hix c u k2⟩)⟩
theorem Imp.fsL {fr fr' : Bool} {l l' : List AV} {n : Nat} (hf : fr' = true → fr = true) (h : ImpL l l') : Imp (.fs fr l n) (.fs fr' l' n) := by
  obtain ⟨e1, e2⟩ := ImpL_get h
  exact Imp.fs hf e1 e2
/-- strings -/
def eS (l : List ByteArray) : List AV := l.map fun s => .v (.string s)
def fS (fr : Bool) (l : List ByteArray) : AV := .fs fr (eS l) l.length
section
variable {fr : Bool} {p : Nat → Prop}
theorem al_S (l : List ByteArray) : AlL p (eS l) := AlL_map (e := fun s => AV.v (.string s)) (fun _ => trivial) l
theorem al_fS (l : List ByteArray) : Al p (fS fr l) := al_S l
theorem ren_S {ρ : Nat → Nat} (l : List ByteArray) : renL ρ (eS l) = eS l := renL_id (p := fun _ => False) (fun _ h => h.elim) (al_S l)
theorem len_S (l : List ByteArray) : (eS l).length = l.length := by simp [eS]
theorem tk_S (l : List ByteArray) : List.take l.length (eS l) = eS l := List.take_of_length_le (by rw [len_S]; exact Nat.le_refl _)
theorem get_S {l : List ByteArray} {i : Nat} {x : ByteArray} (h : l[i]? = some x) : (eS l)[i]? = some (.v (.string x)) := by simp [eS, h]
end
end Go.Proofs.YtonglhkiobibgaaGreatDoor
