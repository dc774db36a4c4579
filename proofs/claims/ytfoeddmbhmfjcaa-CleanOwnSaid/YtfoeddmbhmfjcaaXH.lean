/- Merged texts: B0, B1, B2, K3, B3, B4, B5, B6, B7. -/
import Derived.Test.YtfoeddmbhmfjcaaXG
import Derived.Test.YtfoeddmbhmfjcaaXB
import Derived.Test.YtfoeddmbhmfjcaaXD
import Derived.Test.YtfoeddmbhmfjcaaProg
import Derived.WalkKit
import Derived.ProofKit
import Derived.OpenShut
import Derived.ChangeOld
import Derived.SizedLaws
import Derived.Carry
import Derived.Test.YtfoeddmbhmfjcaaChecked
set_option linter.unusedSimpArgs false
set_option linter.unusedVariables false
/- Between the two ways to say what lies in memory: abstract values (VR) and types' words (Ty.rep). -/
namespace Go.Proofs.Ytfoeddmbhmfjcaa
open Go.RowKit
theorem Then.below {c : Cx} {w' : World} (h : HR c) (nb : Nat) (hb : Below c.w.heap.size c.w w') : Then c nb [] ⟨w', c.B, c.φ, c.σ, c.X, c.Y⟩ := by
  have g : Grow c ⟨w', c.B, c.φ, c.σ, c.X, c.Y⟩ := Still.grow ⟨rfl, rfl, rfl, hb.output, hb.os, hb.tape, hb.size, fun b hlt _ => hb.block b hlt, fun _ h => .inl h, fun b cs _ f h => ⟨cs, f, (hb.block b (lt_of_heap h)).trans h, rfl⟩⟩
  have n : Names c ⟨w', c.B, c.φ, c.σ, c.X, c.Y⟩ := fun _ _ h => h
  refine ⟨g, n, ⟨fun id y e cells hs => ?_, h.inj, Nat.le_trans h.base hb.size, fun b hx => Nat.lt_of_lt_of_le (h.xlt b hx) hb.size⟩, rfl, fun _ h => .inl h⟩
  rcases h.row id y e cells hs with h1 | ⟨b, cs, h1, h2, h3, h4, h5⟩
  · exact .inl h1
  · refine .inr ⟨b, cs, h1, (hb.block b (lt_of_heap h2)).trans h2, h3, h4, fun j a hj => ?_⟩
    obtain ⟨u, k1, k2, k3⟩ := h5 j a hj
    exact ⟨u, k1, k2, VR.mono g n k3⟩
theorem VRl_app {c : Cx} : ∀ {a b : List AV} {us : List Value}, VRl c (a ++ b) us ↔ ∃ u1 u2, us = u1 ++ u2 ∧ VRl c a u1 ∧ VRl c b u2
  | [], b, us => ⟨fun h => ⟨[], us, rfl, rfl, h⟩, fun ⟨u1, u2, e, h1, h2⟩ => by rw [VRl] at h1; subst h1; rw [e]; exact h2⟩
  | x :: a, b, us => by
    rw [List.cons_append, VRl]
    constructor
    · rintro ⟨u, us', rfl, h1, h2, h3⟩
      obtain ⟨u1, u2, rfl, h4, h5⟩ := VRl_app.1 h3
      exact ⟨u :: u1, u2, rfl, ⟨u, u1, rfl, h1, h2, h4⟩, h5⟩
    · rintro ⟨u1, u2, rfl, h1, h2⟩
      rw [VRl] at h1
      obtain ⟨u, us', rfl, h3, h4, h5⟩ := h1
      exact ⟨u, us' ++ u2, rfl, h3, h4, VRl_app.2 ⟨us', u2, rfl, h5, h2⟩⟩
/-- abstract cells and a type's words say the same -/
structure Enc {α : Type} (T : Ty α) (e : Bool → α → List AV) (ok : α → Prop) : Prop where
  len : ∀ fr x, (e fr x).length = T.sz
  fwdP : ∀ {c : Cx} {fr : Bool} {x : α} {us : List Value}, ok x → VRl c (e fr x) us → T.rep c.w (fun b => c.ok fr b) x us
  bwd : ∀ {c : Cx} {x : α} {us : List Value} {P : Nat → Prop}, (∀ b, P b → b < c.w.heap.size → c.ok true b) → T.rep c.w P x us → VRl c (e true x) us
theorem Enc.fwd {α : Type} {T : Ty α} {e : Bool → α → List AV} {ok : α → Prop} (h : Enc T e ok) {c : Cx} {fr : Bool} {x : α} {us : List Value} (h1 : ok x) (h2 : VRl c (e fr x) us) : T.rep c.w (fun _ => True) x us := T.mono (fun _ _ _ => trivial) (h.fwdP h1 h2)
theorem enc_int (k : IntKind) : Enc (Ty.int k) (fun _ x => [.v (.int k x)]) (fun x => (Lit.int k x).wf = true) where
  len _ _ := rfl
  fwdP := by
    intro c fr x us hok h
    rw [VRl] at h
    obtain ⟨u, us', rfl, h1, h2, h3⟩ := h
    rw [VRl] at h3; subst h3
    rw [VR] at h2; subst h2
    exact ⟨rfl, hok⟩
  bwd := by
    rintro c x us P _ ⟨rfl, _⟩
    exact ⟨_, [], rfl, rfl, rfl, rfl⟩
theorem enc_bool : Enc Ty.bool (fun _ x => [.v (.bool x)]) (fun _ => True) where
  len _ _ := rfl
  fwdP := by
    intro c fr x us hok h
    rw [VRl] at h
    obtain ⟨u, us', rfl, h1, h2, h3⟩ := h
    rw [VRl] at h3; subst h3
    rw [VR] at h2; subst h2
    rfl
  bwd := by
    rintro c x us P _ rfl
    exact ⟨_, [], rfl, rfl, rfl, rfl⟩
theorem Enc.pair {α β : Type} {S : Ty α} {T : Ty β} {e1 : Bool → α → List AV} {e2 : Bool → β → List AV} {ok1 : α → Prop} {ok2 : β → Prop} (h1 : Enc S e1 ok1) (h2 : Enc T e2 ok2) :
    Enc (Ty.pair S T) (fun fr x => e1 fr x.1 ++ e2 fr x.2) (fun x => ok1 x.1 ∧ ok2 x.2) where
  len fr x := by rw [List.length_append, h1.len, h2.len]; rfl
  fwdP := by
    intro c fr x us hok h
    obtain ⟨u1, u2, rfl, h3, h4⟩ := VRl_app.1 h
    exact ⟨u1, u2, rfl, h1.fwdP hok.1 h3, h2.fwdP hok.2 h4⟩
  bwd := by
    rintro c x us P hP ⟨u1, u2, rfl, h3, h4⟩
    exact VRl_app.2 ⟨u1, u2, rfl, h1.bwd hP h3, h2.bwd hP h4⟩
theorem Enc.iso {α β : Type} {T : Ty α} {e : Bool → α → List AV} {ok : α → Prop} (h : Enc T e ok) (f : β → α) : Enc (Ty.iso T f) (fun fr x => e fr (f x)) (fun x => ok (f x)) where
  len fr x := h.len fr _
  fwdP := fun hok hv => h.fwdP hok hv
  bwd := fun hP hr => h.bwd hP hr
theorem Enc.C {α : Type} {T : Ty α} {e : Bool → α → List AV} {ok : α → Prop} (h : Enc T e ok) {c : Cx} {fr : Bool} {b off : Nat} {xs : List α} (hok : ∀ x ∈ xs, ok x) (hb : c.ok fr b) (hm : VRm c b off (xs.flatMap (e fr))) : T.C c.w (fun b => c.ok fr b) (some ⟨b, off, none⟩) xs := by
  intro _
  refine ⟨b, off, rfl, hb, fun i x hx => ?_⟩
  rw [VRm_iff] at hm
  have key : ∀ j a, (e fr x)[j]? = some a → ∃ u, c.w.cell? ⟨b, off + i * T.sz + j, none⟩ = some u ∧ u.oneCell' = true ∧ VR c a u := by
    intro j a hj
    have hlt : j < T.sz := by rw [← h.len fr x]; exact (List.getElem?_eq_some_iff.1 hj).1
    have := hm (i * T.sz + j) a (by rw [flat_get (h.len fr) hx j hlt]; exact hj)
    rwa [← Nat.add_assoc] at this
  refine ⟨(List.range T.sz).map fun j => (c.w.cell? ⟨b, off + i * T.sz + j, none⟩).getD (.bool false), h.fwdP (hok x (List.mem_of_getElem? hx)) (fr := fr) (VRl_iff.2 ⟨by simp [h.len], fun j a hj => ?_⟩), fun j u hu => ?_⟩
  · have hlt : j < T.sz := by rw [← h.len fr x]; exact (List.getElem?_eq_some_iff.1 hj).1
    obtain ⟨u, k1, k2, k3⟩ := key j a hj
    exact ⟨u, by simp [hlt, k1], k2, k3⟩
  · have hlt : j < T.sz := by have := (List.getElem?_eq_some_iff.1 hu).1; simpa using this
    obtain ⟨u', k1, _⟩ := key j _ (List.getElem?_eq_getElem (by rw [h.len]; exact hlt))
    simp [hlt, k1] at hu
    rw [k1, hu]
theorem Enc.m {α : Type} {T : Ty α} {e : Bool → α → List AV} {ok : α → Prop} (h : Enc T e ok) {c : Cx} {b off : Nat} {xs : List α} {P : Nat → Prop} (hP : ∀ b, P b → b < c.w.heap.size → c.ok true b)
    (hc : ∀ i x, xs[i]? = some x → ∃ cs, T.rep c.w P x cs ∧ ∀ j u, cs[j]? = some u → c.w.cell? ⟨b, off + i * T.sz + j, none⟩ = some u) : VRm c b off (xs.flatMap (e true)) := by
  rw [VRm_iff]
  intro j a hj
  have hp := T.pos
  have hlt : j < xs.length * T.sz := by rw [← flat_len (h.len true) xs]; exact (List.getElem?_eq_some_iff.1 hj).1
  have hi : j / T.sz < xs.length := Nat.div_lt_of_lt_mul (by rw [Nat.mul_comm]; exact hlt)
  have hr : j % T.sz < T.sz := Nat.mod_lt _ hp
  have ej : j / T.sz * T.sz + j % T.sz = j := by rw [Nat.mul_comm]; exact Nat.div_add_mod _ _
  obtain ⟨cs, h1, h2⟩ := hc (j / T.sz) _ (List.getElem?_eq_getElem hi)
  rw [← ej, flat_get (h.len true) (List.getElem?_eq_getElem hi) _ hr] at hj
  obtain ⟨u, k1, k2, k3⟩ := (VRl_iff.1 (h.bwd hP h1)).2 _ a hj
  refine ⟨u, ?_, k2, k3⟩
  have := h2 _ u k1
  rwa [Nat.add_assoc, ej] at this
theorem Enc.slice {α : Type} {T : Ty α} {e : Bool → α → List AV} {ok : α → Prop} (B : Nat) (h : Enc T e ok) : Enc (Ty.slice B T) (fun fr xs => [.fs fr (xs.flatMap (e fr)) xs.length]) (fun xs => xs.length * B ≤ reachB ∧ ∀ x ∈ xs, ok x) where
  len _ _ := rfl
  fwdP := by
    intro c fr x us hok hv
    rw [VRl] at hv
    obtain ⟨u, us', rfl, h1, h2, h3⟩ := hv
    rw [VRl] at h3; subst h3
    rw [VR] at h2
    obtain ⟨A, k, rfl, hk, hc⟩ := h2
    refine ⟨A, k, rfl, hk, hok.1, fun hn => ?_⟩
    obtain ⟨b, off, rfl, _, hb, hm⟩ := hc (by omega)
    exact h.C hok.2 hb hm hn
  bwd := by
    rintro c x us P hP ⟨A, k, rfl, hk, hB, hC⟩
    refine ⟨_, [], rfl, rfl, ?_, rfl⟩
    rw [VR]
    refine ⟨A, k, rfl, hk, fun hn => ?_⟩
    obtain ⟨b, off, rfl, hb, hc⟩ := hC (by omega)
    have hlt : b < c.w.heap.size := by
      obtain ⟨cs, hr, hcc⟩ := hc 0 _ (List.getElem?_eq_getElem (by omega : 0 < x.length))
      have hl := T.len hr
      have hp := T.pos
      exact lt_of_cell (hcc 0 _ (List.getElem?_eq_getElem (by omega : 0 < cs.length)))
    exact ⟨b, off, rfl, hlt, hP b hb hlt, h.m hP hc⟩
/-- what a slice's value says -/
theorem Enc.rd {α : Type} {T : Ty α} {e : Bool → α → List AV} {ok : α → Prop} (B : Nat) (h : Enc T e ok) {c : Cx} {fr : Bool} {xs : List α} {u : Value} (hB : xs.length * B ≤ reachB) (hok : ∀ x ∈ xs, ok x) (hv : VR c (.fs fr (xs.flatMap (e fr)) xs.length) u) :
    ∃ A k, u = .slice A xs.length k ∧ RdS T B c.w (fun _ => True) A k xs := by
  rw [VR] at hv
  obtain ⟨A, k, rfl, hk, hc⟩ := hv
  refine ⟨A, k, rfl, hk, hB, fun hn => ?_⟩
  obtain ⟨b, off, rfl, _, hb, hm⟩ := hc (by omega)
  exact Ty.C_mono (fun _ _ _ => trivial) (h.C hok hb hm) hn
end Go.Proofs.Ytfoeddmbhmfjcaa
/- The log's functions, as calls of the abstract machine. -/
namespace Go.Proofs.Ytfoeddmbhmfjcaa
open Go.RowKit
def wf64 (x : Int) : Prop := (Lit.int .i64 x).wf = true
def okBytes (l : List Int) : Prop := l.length * 1 ≤ reachB ∧ ∀ x ∈ l, (Lit.int .u8 x).wf = true
def okBlk (b : Blk) : Prop := wf64 b.own ∧ wf64 b.idx ∧ okBytes b.data
def okBlks (l : List Blk) : Prop := l.length * 40 ≤ reachB ∧ ∀ x ∈ l, okBlk x
def okSg (g : Sg) : Prop := wf64 g.seq ∧ okBlks g.blocks
def okSgs (l : List Sg) : Prop := l.length * 32 ≤ reachB ∧ ∀ x ∈ l, okSg x
def okBools (l : List Bool) : Prop := l.length * 1 ≤ reachB ∧ ∀ x ∈ l, True
/-- a state as a program can hold one -/
def okSt (s : St) : Prop := okSgs s.segs ∧ okBools s.held ∧ okBlks s.opn ∧ wf64 s.next
theorem eB_flat (l : List Int) : eB l = l.flatMap fun x => [.v (.int .u8 x)] := by simp [eB, List.map_eq_flatMap]
theorem eBools_flat (l : List Bool) : eBools l = l.flatMap fun x => [.v (.bool x)] := by simp [eBools, List.map_eq_flatMap]
theorem enc_bytes : Enc tBytes (fun fr l => [fB fr l]) okBytes := by
  have := Enc.slice 1 (enc_int .u8)
  simp only [← eB_flat] at this
  exact this
theorem enc_bools : Enc tBools (fun fr l => [fBools fr l]) okBools := by
  have := Enc.slice 1 enc_bool
  simp only [← eBools_flat] at this
  exact this
theorem enc_blk : Enc tBlk eBlk okBlk := (Enc.pair (enc_int .i64) (Enc.pair (enc_int .i64) enc_bytes)).iso _
theorem enc_blks : Enc tBlks (fun fr l => [fBlks fr l]) okBlks := Enc.slice 40 enc_blk
theorem enc_sg : Enc tSg eSg okSg := (Enc.pair (enc_int .i64) enc_blks).iso _
theorem enc_sgs : Enc tSgs (fun fr l => [fSegs fr l]) okSgs := Enc.slice 32 enc_sg
theorem enc_st : Enc tSt (fun fr s => [fSegs fr s.segs, fBools fr s.held, fBlks fr s.opn, .v (.int .i64 s.next)]) okSt := (Enc.pair enc_sgs (Enc.pair enc_bools (Enc.pair enc_blks (enc_int .i64)))).iso _
theorem rd_st {c : Cx} {fr : Bool} {s : St} {u : Value} (hok : okSt s) (h : VR c (aSt fr s) u) : ∃ A0 c0 A1 c1 A2 c2, u = .agg #[.slice A0 s.segs.length c0, .slice A1 s.held.length c1, .slice A2 s.opn.length c2, .int .i64 s.next] ∧
    RdS tSg 32 c.w (fun _ => True) A0 c0 s.segs ∧ RdS Ty.bool 1 c.w (fun _ => True) A1 c1 s.held ∧ RdS tBlk 40 c.w (fun _ => True) A2 c2 s.opn := by
  rw [aSt, VR] at h
  obtain ⟨us, rfl, h⟩ := h
  obtain ⟨A0, c0, A1, c1, A2, c2, rfl, h0, h1, h2, _⟩ := st_open (enc_st.fwd hok h)
  exact ⟨A0, c0, A1, c1, A2, c2, rfl, h0, h1, h2⟩
theorem rd_stP {c : Cx} {fr : Bool} {s : St} {u : Value} (hok : okSt s) (h : VR c (aSt fr s) u) : ∃ A0 c0 A1 c1 A2 c2, u = .agg #[.slice A0 s.segs.length c0, .slice A1 s.held.length c1, .slice A2 s.opn.length c2, .int .i64 s.next] ∧
    RdS tSg 32 c.w (fun b => c.ok fr b) A0 c0 s.segs ∧ RdS Ty.bool 1 c.w (fun b => c.ok fr b) A1 c1 s.held ∧ RdS tBlk 40 c.w (fun b => c.ok fr b) A2 c2 s.opn := by
  rw [aSt, VR] at h
  obtain ⟨us, rfl, h⟩ := h
  obtain ⟨A0, c0, A1, c1, A2, c2, rfl, h0, h1, h2, _⟩ := st_open (enc_st.fwdP hok h)
  exact ⟨A0, c0, A1, c1, A2, c2, rfl, h0, h1, h2⟩
theorem rd_blk {c : Cx} {fr : Bool} {b : Blk} {u : Value} (hok : okBlk b) (h : VR c (aBlk fr b) u) : ∃ A k, u = .agg #[.int .i64 b.own, .int .i64 b.idx, .slice A b.data.length k] ∧ RdS (Ty.int .u8) 1 c.w (fun _ => True) A k b.data := by
  rw [aBlk, VR] at h
  obtain ⟨us, rfl, h⟩ := h
  obtain ⟨A, k, rfl, _, _, h0⟩ := blk_open (enc_blk.fwd (fr := fr) hok h)
  exact ⟨A, k, rfl, h0⟩
/-- what a call made: young, not held, not another's -/
theorem young_ok {c : Cx} {w' : World} (h : HR c) {b : Nat} (hb : c.w.heap.size ≤ b) : (Cx.mk w' c.B c.φ c.σ c.X c.Y).ok true b := by
  refine ⟨fun _ => Nat.le_trans h.base hb, ?_, fun hx => ?_⟩
  · rintro ⟨id, ⟨y, e, cells⟩, h1, h2⟩
    rcases h.row id y e cells h1 with ⟨h3, _⟩ | ⟨b', cs, h3, h4, _⟩
    · have h3' : c.φ id = some (some b) := h2
      rw [h3] at h3'; cases h3'
    · have h3' : c.φ id = some (some b) := h2
      rw [h3] at h3'; cases h3'
      have := lt_of_heap h4
      omega
  · have := h.xlt b hx
    omega
theorem mk_st {c : Cx} {w' : World} {s : St} {v0 v1 v2 : Value} (h : HR c) (hr : tSt.rep w' (fun b => c.w.heap.size ≤ b) s [v0, v1, v2, .int .i64 s.next]) : VR ⟨w', c.B, c.φ, c.σ, c.X, c.Y⟩ (aSt true s) (.agg (stCells v0 v1 v2 s.next)) := by
  rw [aSt, VR]
  exact ⟨_, rfl, enc_st.bwd (c := ⟨w', c.B, c.φ, c.σ, c.X, c.Y⟩) (fun b hb _ => young_ok h hb) hr⟩
theorem vrt1 {c : Cx} {a : AV} {us : List Value} (h : VRt c [a] us) : ∃ u, us = [u] ∧ VR c a u := by
  rw [VRt] at h
  obtain ⟨u, us', rfl, h1, h2⟩ := h
  rw [VRt] at h2; subst h2
  exact ⟨u, rfl, h1⟩
theorem vrt2 {c : Cx} {a b : AV} {us : List Value} (h : VRt c [a, b] us) : ∃ u v, us = [u, v] ∧ VR c a u ∧ VR c b v := by
  rw [VRt] at h
  obtain ⟨u, us', rfl, h1, h2⟩ := h
  obtain ⟨v, rfl, h3⟩ := vrt1 h2
  exact ⟨u, v, rfl, h1, h3⟩
theorem vrt3 {c : Cx} {a b d : AV} {us : List Value} (h : VRt c [a, b, d] us) : ∃ u v x, us = [u, v, x] ∧ VR c a u ∧ VR c b v ∧ VR c d x := by
  rw [VRt] at h
  obtain ⟨u, us', rfl, h1, h2⟩ := h
  obtain ⟨v, x, rfl, h3, h4⟩ := vrt2 h2
  exact ⟨u, v, x, rfl, h1, h3, h4⟩
/-- a contract in the old words is one in the new ones -/
theorem asound_of {f : FuncId} {args : List AV} {nb : Nat} {r : AV} (he : enters Try.prog f = true)
    (h : ∀ (c : Cx) (us : List Value), HR c → VRt c args us → Calls Try.prog f us.toArray c.w fun e w' => ∃ v, e = .returned v ∧ Below c.w.heap.size c.w w' ∧ VR ⟨w', c.B, c.φ, c.σ, c.X, c.Y⟩ r v) : ASound Try.prog f args nb (.ret r []) := by
  refine ⟨he, fun c us r' R W hrun hr _ hv => ?_⟩
  simp only [AM.run, Option.some.injEq, Prod.mk.injEq] at hrun
  obtain ⟨rfl, rfl, rfl⟩ := hrun
  refine (h c us hr hv).mono ?_
  rintro e w' ⟨v, rfl, hb, hv'⟩
  exact ⟨v, _, rfl, rfl, hv', Then.below hr nb hb⟩
theorem logSeal_A (fr : Bool) (s : St) (nb : Nat) (hok : okSt s) : ASound Try.prog 19 [aSt fr s] nb (.ret (.tup [aSt true (slSt s), .v (.int .i64 (slAt s)), .v (.int .i64 (slErr s))]) []) := by
  refine asound_of (by rfl) fun c us hr ha => ?_
  obtain ⟨u, rfl, hv⟩ := vrt1 ha
  obtain ⟨A0, c0, A1, c1, A2, c2, rfl, h0, h1, h2⟩ := rd_st hok hv
  refine (seal_calls s A0 A1 A2 c0 c1 c2 c.w h0 h1 h2 hok.2.2.2).mono ?_
  rintro e w' ⟨v0, v1, v2, rfl, hr', hb⟩
  exact ⟨_, rfl, hb, by rw [VR]; exact ⟨_, rfl, _, _, rfl, mk_st hr hr', _, _, rfl, rfl, _, _, rfl, rfl, rfl⟩⟩
theorem logFree_A (fr : Bool) (s : St) (slot : Int) (nb : Nat) (hok : okSt s) : ASound Try.prog 23 [aSt fr s, .v (.int .i64 slot)] nb (.ret (.tup [aSt true (frSt s slot), .v (.int .i64 (frErr s slot))]) []) := by
  refine asound_of (by rfl) fun c us hr ha => ?_
  obtain ⟨u, u2, rfl, hv, hv2⟩ := vrt2 ha
  rw [VR] at hv2; subst hv2
  obtain ⟨A0, c0, A1, c1, A2, c2, rfl, h0, h1, h2⟩ := rd_st hok hv
  refine (logFree_calls s slot A0 A1 A2 c0 c1 c2 c.w h0 h1 h2 hok.2.2.2).mono ?_
  rintro e w' ⟨v0, v1, v2, rfl, hr', hb⟩
  exact ⟨_, rfl, hb, by rw [VR]; exact ⟨_, rfl, _, _, rfl, mk_st hr hr', _, _, rfl, rfl, rfl⟩⟩
theorem logPut_A (fr fb : Bool) (s : St) (b : Blk) (nb : Nat) (hok : okSt s) (hb : okBlk b) : ASound Try.prog 30 [aSt fr s, aBlk fb b] nb (.ret (.tup [aSt true (putSt s b), .v (.int .i64 (putErr s b))]) []) := by
  refine asound_of (by rfl) fun c us hr ha => ?_
  obtain ⟨u, u2, rfl, hv, hv2⟩ := vrt2 ha
  obtain ⟨A0, c0, A1, c1, A2, c2, rfl, h0, h1, h2⟩ := rd_st hok hv
  obtain ⟨Ab, cb, rfl, h3⟩ := rd_blk hb hv2
  refine (put_calls s b A0 A1 A2 Ab c0 c1 c2 cb c.w h0 h1 h2 hok.2.2.2 hb.1 hb.2.1 h3).mono ?_
  rintro e w' ⟨v0, v1, v2, rfl, hr', hbl⟩
  exact ⟨_, rfl, hbl, by rw [VR]; exact ⟨_, rfl, _, _, rfl, mk_st hr hr', _, _, rfl, rfl, rfl⟩⟩
theorem logCheck_A (fr : Bool) (s : St) (nb : Nat) (hok : okSt s) : ASound Try.prog 46 [aSt fr s] nb (.ret (.v (.int .i64 (errOf (chk s)))) []) := by
  refine asound_of (by rfl) fun c us hr ha => ?_
  obtain ⟨u, rfl, hv⟩ := vrt1 ha
  obtain ⟨A0, c0, A1, c1, A2, c2, rfl, h0, h1, h2⟩ := rd_st hok hv
  refine (check_calls s A0 A1 A2 c0 c1 c2 c.w h0 h2).mono ?_
  rintro e w' ⟨rfl, hb⟩
  exact ⟨_, rfl, hb, by rw [VR]⟩
theorem mk_row {α : Type} {T : Ty α} {e : Bool → α → List AV} {ok : α → Prop} (h : Enc T e ok) {c : Cx} {w' : World} {t : TypeId} {PI : Nat → Nat → Prop} {v : Value} {xs : List α} (hr : HR c) (hrow : T.RowI t w' c.w.heap.size PI v xs) (hP : ∀ i k, i < xs.length → PI i k → k < w'.heap.size → c.w.heap.size ≤ k) : VR ⟨w', c.B, c.φ, c.σ, c.X, c.Y⟩ (.fs true (xs.flatMap (e true)) xs.length) v := by
  obtain ⟨A, k, rfl, hk⟩ := Ty.Row_slice hrow
  have hC := Ty.RowI_C (P := fun b => c.w.heap.size ≤ b) hrow hP fun k hk => (Ty.RowI_lt hrow hk).1
  rw [VR]
  refine ⟨A, k, rfl, hk, fun hn => ?_⟩
  obtain ⟨b, off, rfl, hb, hc⟩ := hC (by omega)
  have hlt : b < w'.heap.size := by
    obtain ⟨cs, hr1, hcc⟩ := hc 0 _ (List.getElem?_eq_getElem (by omega : 0 < xs.length))
    have hl := T.len hr1
    have hp := T.pos
    exact lt_of_cell (hcc 0 _ (List.getElem?_eq_getElem (by omega : 0 < cs.length)))
  exact ⟨b, off, rfl, hlt, young_ok hr hb, h.m (c := ⟨w', c.B, c.φ, c.σ, c.X, c.Y⟩) (fun b hb _ => young_ok hr hb) hc⟩
theorem logLive_A (fr : Bool) (s : St) (slot : Int) (nb : Nat) (hok : okSt s) : ASound Try.prog 21 [aSt fr s, .v (.int .i64 slot)] nb (.ret (.tup [fBlks true (liveL s slot), .v (.int .i64 (liveErr s slot))]) []) := by
  refine asound_of (by rfl) fun c us hr ha => ?_
  obtain ⟨u, u2, rfl, hv, hv2⟩ := vrt2 ha
  rw [VR] at hv2; subst hv2
  obtain ⟨A0, c0, A1, c1, A2, c2, rfl, h0, h1, h2⟩ := rd_st hok hv
  refine (live_calls s slot A0 A1 A2 c0 c1 c2 c.w h0 h2).mono ?_
  rintro e w' ⟨v, rfl, hr', hb⟩
  exact ⟨_, rfl, hb, by rw [VR]; exact ⟨_, rfl, _, _, rfl, mk_row enc_blk hr hr'.2 (fun _ _ _ h _ => h), _, _, rfl, rfl, rfl⟩⟩
theorem logGet_A (fr : Bool) (s : St) (o i : Int) (nb : Nat) (hok : okSt s) : ASound Try.prog 41 [aSt fr s, .v (.int .i64 o), .v (.int .i64 i)] nb (.ret (.tup [fB true (getB s o i), .v (.bool (getIs s o i)), .v (.int .i64 (errOf (chk s)))]) []) := by
  refine asound_of (by rfl) fun c us hr ha => ?_
  obtain ⟨u, u2, u3, rfl, hv, hv2, hv3⟩ := vrt3 ha
  rw [VR] at hv2 hv3; subst hv2; subst hv3
  obtain ⟨A0, c0, A1, c1, A2, c2, rfl, h0, h1, h2⟩ := rd_st hok hv
  refine (get_calls s o i A0 A1 A2 c0 c1 c2 c.w h0 h2).mono ?_
  rintro e w' ⟨v, rfl, hr', hb⟩
  have hb' := mk_row (enc_int .u8) hr hr' (fun _ _ _ h _ => h.elim)
  simp only [← eB_flat] at hb'
  exact ⟨_, rfl, hb, by rw [VR]; exact ⟨_, rfl, _, _, rfl, hb', _, _, rfl, rfl, _, _, rfl, rfl, rfl⟩⟩
end Go.Proofs.Ytfoeddmbhmfjcaa
/- Plain: what the program's log answers is what the page's answers. -/
namespace Go.Proofs.Ytfoeddmbhmfjcaa
open Go.RowKit
theorem mayB'_eq (b : Blk) : mayB' b = mayBlk b := by
  simp only [mayB', mayBlk, mayB]
theorem freeB'_eq (x : Sg) : freeB' x = freeB x := rfl
theorem sgOk'_eq (x : Sg) : sgOk' x = sgOk x := by
  have : (mayB' : Blk → Bool) = mayBlk := funext mayB'_eq
  simp only [sgOk', sgOk, this]
theorem rchk_iff (s : St) : rchk s = true ↔ Good s := by
  have hm : (mayB' : Blk → Bool) = mayBlk := funext mayB'_eq
  simp only [rchk, Bool.and_eq_true, rHead, decide_eq_true_eq, hm]
  constructor
  · rintro ⟨⟨h1, h2⟩, h3⟩
    have seg : ∀ (i : Nat) (x : Sg), s.segs[i]? = some x → freeB x = false → (sgOk x = true ∧ x.seq < s.next) ∧ ∀ (k : Nat) (y : Sg), k < i → s.segs[k]? = some y → y.seq ≠ x.seq := by
      intro i x hx hf
      have h4 := (List.all_eq_true.1 h2) i (List.mem_range.2 (idx_lt hx))
      simp only [segOkAt, hx, freeB'_eq, hf, Bool.false_or, Bool.and_eq_true, decide_eq_true_eq, sgOk'_eq, List.all_eq_true] at h4
      refine ⟨h4.1, fun k y hk hy => h4.2 y (List.mem_of_getElem? (i := k) (by rw [List.getElem?_take, if_pos hk]; exact hy))⟩
    refine ⟨h1.1, h1.2.1, h1.2.2.1, h1.2.2.2.1, h1.2.2.2.2.1, h1.2.2.2.2.2, h3, fun i x hx hf => (seg i x hx hf).1, fun i j x y hx hy hfx hfy e => ?_⟩
    rcases Nat.lt_trichotomy i j with h | h | h
    · exact absurd e ((seg j y hy hfy).2 i x h hx)
    · exact h
    · exact absurd e.symm ((seg i x hx hfx).2 j y h hy)
  · intro g
    refine ⟨⟨⟨g.n1, g.n64, g.held, g.next1, g.nextM, g.opn8⟩, ?_⟩, g.opnMay⟩
    rw [List.all_eq_true]
    intro i hi
    have hil := List.mem_range.1 hi
    have hx := List.getElem?_eq_getElem hil
    simp only [segOkAt, hx]
    cases hf : freeB s.segs[i] with
    | true => simp [freeB'_eq, hf]
    | false =>
      obtain ⟨h1, h2⟩ := g.seg i _ hx hf
      simp only [freeB'_eq, hf, Bool.false_or, sgOk'_eq, h1, h2, decide_true, Bool.true_and, Bool.and_eq_true, List.all_eq_true, decide_eq_true_eq, true_and]
      intro y hy
      obtain ⟨k, hk⟩ := List.getElem?_of_mem hy
      rw [List.getElem?_take] at hk
      split at hk
      · rename_i hki
        intro e
        cases hfy : freeB y with
        | true =>
          simp only [freeB, decide_eq_true_eq] at hfy
          simp only [sgOk, Bool.and_eq_true, decide_eq_true_eq] at h1
          omega
        | false => have := g.dist k i y _ hk hx hfy hf e; omega
      · cases hk
theorem rchk_eq (s : St) : rchk s = chk s := Bool.eq_iff_iff.2 ((rchk_iff s).trans (chk_iff s).symm)
theorem errN_eq (b : Bool) : errN b = errOf b := rfl
def la (v : Ver) : LA := ⟨v.seq, v.at_, v.data, v.count⟩
theorem la_note {seq o x : Int} {l : List Blk} {q : Vers} : ∀ k, la ((noteN seq l q k).ver (o, x)) = (l.take k).zipIdx.foldl (stepSeg o x seq) (la (q.ver (o, x)))
  | 0 => by simp [noteN]
  | k + 1 => by
    have ih := la_note (seq := seq) (o := o) (x := x) (l := l) (q := q) k
    cases hb : l[k]? with
    | none =>
      have : l.take (k + 1) = l.take k := by rw [List.take_of_length_le (by have := List.getElem?_eq_none_iff.1 hb; omega), List.take_of_length_le (List.getElem?_eq_none_iff.1 hb)]
      rw [this, ← ih]
      simp [noteN, hb]
    | some b =>
      rw [noteN_succ hb, zip_take hb, ← ih]
      simp only [noteStep, stepSeg]
      by_cases hk : b.own = o ∧ b.idx = x
      · rw [if_pos hk, if_pos (by simp [kindOf, hk.1, hk.2])]
        by_cases hq : ((noteN seq l q k).ver (o, x)).seq ≤ seq <;> simp [bump, la, hq]
      · rw [if_neg hk, if_neg (by simp only [kindOf, Prod.mk.injEq]; exact fun h => hk ⟨h.1.symm, h.2.symm⟩)]
theorem la_segs {o x : Int} {s : St} : ∀ k, k ≤ s.segs.length → la ((segsN s k).ver (o, x)) = segsF o x (s.segs.take k)
  | 0, _ => rfl
  | k + 1, hk => by
    have hg := List.getElem?_eq_getElem (show k < s.segs.length by omega)
    have ih := la_segs (o := o) (x := x) (s := s) k (by omega)
    rw [segsN_succ hg, la_note, List.take_length, ih]
    exact (fold_take hg (segF o x) _).symm
theorem opn_fold {o x n : Int} : ∀ (l : List (Blk × Nat)) (a : LA), a.q ≤ n → l.foldl (stepSeg o x n) a = l.foldl (stepOpn o x n) a
  | [], a, _ => rfl
  | p :: l, a, h => by
    have h1 : stepSeg o x n a p = stepOpn o x n a p := by
      simp only [stepSeg, stepOpn, h, if_true]
    have h2 : (stepOpn o x n a p).q ≤ n := by
      simp only [stepOpn]
      split
      · exact Int.le_refl _
      · exact h
    rw [List.foldl_cons, List.foldl_cons, h1]
    exact opn_fold l _ h2
theorem seg_q {o x seq n : Int} (hs : seq ≤ n) : ∀ (l : List (Blk × Nat)) (a : LA), a.q ≤ n → (l.foldl (stepSeg o x seq) a).q ≤ n
  | [], a, h => h
  | p :: l, a, h => by
    rw [List.foldl_cons]
    refine seg_q hs l _ ?_
    simp only [stepSeg]
    split
    · split
      · exact hs
      · exact h
    · exact h
theorem segs_q {o x n : Int} : ∀ (l : List Sg) (a : LA), a.q ≤ n → (∀ g ∈ l, g.seq ≤ n ∨ g.blocks = []) → (l.foldl (segF o x) a).q ≤ n
  | [], a, h, _ => h
  | g :: l, a, h, hl => by
    rw [List.foldl_cons]
    refine segs_q l _ ?_ fun g hg => hl g (by simp [hg])
    rcases hl g (by simp) with h1 | h1
    · exact seg_q h1 _ _ h
    · simp only [segF, h1, List.zipIdx_nil, List.foldl_nil]; exact h
theorem lastF_eq {s : St} (g : Good s) (o x : Int) : lastF s o x = la ((versOf s).ver (o, x)) := by
  unfold lastF versOf
  rw [la_note, List.take_length, la_segs _ (Nat.le_refl _), List.take_length]
  refine (opn_fold _ _ ?_).symm
  refine segs_q _ _ ?_ fun y hy => ?_
  · have := g.next1
    show (0 : Int) ≤ s.next
    omega
  · obtain ⟨i, hi⟩ := List.getElem?_of_mem hy
    cases hf : freeB y with
    | true => right; simp only [freeB, decide_eq_true_eq] at hf; exact List.eq_nil_of_length_eq_zero hf.2
    | false => left; have := (g.seg i y hi hf).2; omega
theorem keep_eq {s : St} (g : Good s) (x : Sg) : ∀ k, k ≤ x.blocks.length → keepL s x k = liveN (versOf s) x k
  | 0, _ => by simp [keepL, liveN]
  | k + 1, hk => by
    have hb := List.getElem?_eq_getElem (show k < x.blocks.length by omega)
    rw [keepL_succ hb, liveN_succ hb, keep_eq g x k (by omega)]
    have : keepB s x (x.blocks[k], k) = liveKeep (versOf s) x k x.blocks[k] := by
      simp only [keepB, liveKeep, lastF_eq g, la, kindOf]
      exact decide_eq_decide.2 Iff.rfl
    rw [this]
theorem used_eq (s : St) (slot : Int) : usedE s slot = liveErr s slot := by
  unfold usedE liveErr slotOf
  rw [rchk_eq]
  by_cases hc : chk s = true
  · rw [if_pos hc, if_pos hc]
    by_cases h0 : 0 ≤ slot
    · rw [if_pos h0]
      by_cases hl : slot < s.segs.length
      · rw [if_pos ⟨h0, hl⟩]
        have hx := List.getElem?_eq_getElem (show slot.toNat < s.segs.length by omega)
        rw [hx]
        simp only [freeB'_eq]
        split <;> simp_all
      · rw [if_neg (fun h => hl h.2), List.getElem?_eq_none (by omega)]
        simp
    · rw [if_neg (fun h => h0 h.1), if_neg h0]
      simp
  · rw [if_neg hc, if_neg hc]
theorem live_eq (s : St) (slot : Int) : rlive s slot = liveL s slot := by
  unfold rlive liveL
  by_cases hu : usedE s slot = 0
  · obtain ⟨hc, k, x, rfl, hx, hf⟩ := usedE_0 hu
    have g := (rchk_iff s).1 hc
    rw [rchk_eq] at hc
    rw [freeB'_eq] at hf
    rw [if_pos hu, if_pos hc, slot_at hx, Int.toNat_natCast, hx]
    simp only [hf, Bool.false_eq_true, if_false]
    exact keep_eq g x _ (Nat.le_refl _)
  · rw [if_neg hu]
    by_cases hc : chk s = true
    · rw [if_pos hc]
      have h1 := hu
      rw [used_eq, liveErr, if_pos hc] at h1
      cases hs : slotOf s slot with
      | none => rfl
      | some x => rw [hs] at h1; simp at h1
    · rw [if_neg hc]
theorem fr_eq (s : St) (slot : Int) : rfrE s slot = frErr s slot ∧ rfrSt s slot = frSt s slot := by
  have h1 : rfrE s slot = frErr s slot := by
    unfold rfrE frErr
    rw [used_eq, live_eq]
    split
    · by_cases h : liveL s slot = []
      · simp [h]
      · rw [if_pos (List.length_pos_iff.2 h), if_neg h]
    · rfl
  exact ⟨h1, by unfold rfrSt frSt freeSt; rw [h1]⟩
theorem sl_eq (s : St) : rslE s = slErr s ∧ rslAt s = slAt s ∧ rslSt s = slSt s := by
  have hat : rAt s = sealAt s := by
    unfold rAt sealAt
    congr 1
  have h1 : rslE s = slErr s := by
    unfold rslE slErr
    rw [rchk_eq, hat]
    by_cases hc : chk s = true
    · have := ((chk_iff s).1 hc).nextM
      rw [if_pos hc, if_pos hc]
      split
      · rfl
      · by_cases hn : s.next = 1099511627776
        · rw [if_pos (by omega)]
          cases sealAt s <;> simp [hn]
        · rw [if_neg (by omega)]
          cases sealAt s <;> simp [hn]
    · rw [if_neg hc, if_neg hc]
  have h2 : rslAt s = slAt s := by unfold rslAt slAt; rw [h1, hat]
  exact ⟨h1, h2, by unfold rslSt slSt sealSt; rw [h1, h2]⟩
theorem put_eq (s : St) (b : Blk) : rputE s b = putErr s b ∧ rputSt s b = putSt s b := by
  have h1 : rputE s b = putErr s b := by
    unfold rputE putErr
    rw [rchk_eq, mayB'_eq]
    by_cases hc : chk s = true
    · have := ((chk_iff s).1 hc).opn8
      rw [if_pos hc, if_pos hc]
      split
      · by_cases h8 : s.opn.length = 8
        · rw [if_pos (by omega), if_pos h8]
        · rw [if_neg (by omega), if_neg h8]
      · rfl
    · rw [if_neg hc, if_neg hc]
  exact ⟨h1, by unfold rputSt putSt; rw [h1]⟩
end Go.Proofs.Ytfoeddmbhmfjcaa
/- Functions of the program, compiled. -/
namespace Go.Proofs.Ytfoeddmbhmfjcaa
set_option maxRecDepth 100000
def ac_28 : AC :=
(.seq (.reg false [⟨some 0, .mv (.const (.bool false)), none, [], []⟩] [])
(.seq (.reg false [⟨some 16, .call 47 [(.const (.int .i64 (2)))], none, [], []⟩,
    ⟨some 15, .mv (.tmp 16), none, [16], []⟩,
    ⟨some 17, .ext 0 (.tmp 15), none, [15], []⟩,
    ⟨some 18, .ext 1 (.tmp 15), none, [15], []⟩,
    ⟨some 1, .new 36 [(.slice none 0 0), (.slice none 0 0), (.slice none 0 0), (.int .i64 (0))], none, [], []⟩,
    ⟨none, .store 4 (.tmp 1) (.tmp 17), none, [1, 17], []⟩,
    ⟨some 2, .mv (.tmp 18), none, [18], []⟩] [1, 2])
(.seq (.reg false [⟨some 20, .load true 4 (.tmp 1), none, [1], []⟩,
    ⟨some 21, .bslice 5 1 1 [(.int .u8 (0))] [(0, 1, (.const (.int .u8 (97))))], none, [], []⟩,
    ⟨some 22, .sconv (.tmp 21), none, [21], []⟩,
    ⟨some 23, .build [(.int .i64 (0)), (.int .i64 (0)), (.slice none 0 0)] [(0, 1, (.const (.int .i64 (1)))), (2, 1, (.tmp 22))], none, [22], []⟩,
    ⟨some 24, .call 30 [(.tmp 20), (.tmp 23)], none, [20, 23], []⟩,
    ⟨some 19, .mv (.tmp 24), none, [24], []⟩,
    ⟨some 25, .ext 0 (.tmp 19), none, [19], []⟩,
    ⟨some 26, .ext 1 (.tmp 19), none, [19], []⟩,
    ⟨none, .store 4 (.tmp 1) (.tmp 25), none, [1, 25], []⟩,
    ⟨some 3, .mv (.tmp 26), none, [26], []⟩] [1, 2, 3])
(.seq (.reg false [⟨some 28, .load true 4 (.tmp 1), none, [1], []⟩,
    ⟨some 29, .call 19 [(.tmp 28)], none, [28], []⟩,
    ⟨some 27, .mv (.tmp 29), none, [29], []⟩,
    ⟨some 30, .ext 0 (.tmp 27), none, [27], []⟩,
    ⟨some 31, .ext 1 (.tmp 27), none, [27], []⟩,
    ⟨some 32, .ext 2 (.tmp 27), none, [27], []⟩,
    ⟨none, .store 4 (.tmp 1) (.tmp 30), none, [1, 30], []⟩,
    ⟨some 4, .mv (.tmp 31), none, [31], []⟩,
    ⟨some 5, .mv (.tmp 32), none, [32], []⟩] [1, 2, 3, 4, 5])
(.seq (.reg false [⟨some 34, .load true 4 (.tmp 1), none, [1], []⟩,
    ⟨some 35, .bslice 5 1 1 [(.int .u8 (0))] [(0, 1, (.const (.int .u8 (98))))], none, [], []⟩,
    ⟨some 36, .sconv (.tmp 35), none, [35], []⟩,
    ⟨some 37, .build [(.int .i64 (0)), (.int .i64 (0)), (.slice none 0 0)] [(0, 1, (.const (.int .i64 (1)))), (2, 1, (.tmp 36))], none, [36], []⟩,
    ⟨some 38, .call 30 [(.tmp 34), (.tmp 37)], none, [34, 37], []⟩,
    ⟨some 33, .mv (.tmp 38), none, [38], []⟩,
    ⟨some 39, .ext 0 (.tmp 33), none, [33], []⟩,
    ⟨some 40, .ext 1 (.tmp 33), none, [33], []⟩,
    ⟨none, .store 4 (.tmp 1) (.tmp 39), none, [1, 39], []⟩,
    ⟨some 6, .mv (.tmp 40), none, [40], []⟩] [1, 2, 3, 4, 5, 6])
(.seq (.reg false [⟨some 42, .load true 4 (.tmp 1), none, [1], []⟩,
    ⟨some 43, .call 19 [(.tmp 42)], none, [42], []⟩,
    ⟨some 41, .mv (.tmp 43), none, [43], []⟩,
    ⟨some 44, .ext 0 (.tmp 41), none, [41], []⟩,
    ⟨some 45, .ext 1 (.tmp 41), none, [41], []⟩,
    ⟨some 46, .ext 2 (.tmp 41), none, [41], []⟩,
    ⟨none, .store 4 (.tmp 1) (.tmp 44), none, [1, 44], []⟩,
    ⟨some 7, .mv (.tmp 45), none, [45], []⟩,
    ⟨some 8, .mv (.tmp 46), none, [46], []⟩] [1, 2, 3, 4, 5, 6, 7, 8])
(.seq (.reg false [⟨some 48, .load true 4 (.tmp 1), none, [1], []⟩,
    ⟨some 49, .call 21 [(.tmp 48), (.const (.int .i64 (0)))], none, [48], []⟩,
    ⟨some 47, .mv (.tmp 49), none, [49], []⟩,
    ⟨some 50, .ext 0 (.tmp 47), none, [47], []⟩,
    ⟨some 51, .ext 1 (.tmp 47), none, [47], []⟩,
    ⟨some 9, .mv (.tmp 50), none, [50], []⟩,
    ⟨some 10, .mv (.tmp 51), none, [51], []⟩] [1, 2, 3, 4, 5, 6, 7, 8, 9, 10])
(.seq (.reg false [⟨some 53, .load true 4 (.tmp 1), none, [1], []⟩,
    ⟨some 54, .call 23 [(.tmp 53), (.const (.int .i64 (0)))], none, [53], []⟩,
    ⟨some 52, .mv (.tmp 54), none, [54], []⟩,
    ⟨some 55, .ext 0 (.tmp 52), none, [52], []⟩,
    ⟨some 56, .ext 1 (.tmp 52), none, [52], []⟩,
    ⟨none, .store 4 (.tmp 1) (.tmp 55), none, [1, 55], []⟩,
    ⟨some 11, .mv (.tmp 56), none, [56], []⟩] [1, 2, 3, 4, 5, 6, 7, 8, 9, 10, 11])
(.seq (.reg false [⟨some 58, .load true 4 (.tmp 1), none, [1], []⟩,
    ⟨some 59, .call 41 [(.tmp 58), (.const (.int .i64 (1))), (.const (.int .i64 (0)))], none, [58], []⟩,
    ⟨some 57, .mv (.tmp 59), none, [59], []⟩,
    ⟨some 60, .ext 0 (.tmp 57), none, [57], []⟩,
    ⟨some 61, .ext 1 (.tmp 57), none, [57], []⟩,
    ⟨some 62, .ext 2 (.tmp 57), none, [57], []⟩,
    ⟨some 12, .mv (.tmp 60), none, [60], []⟩,
    ⟨some 13, .mv (.tmp 61), none, [61], []⟩,
    ⟨some 14, .mv (.tmp 62), none, [62], []⟩] [2, 3, 4, 5, 6, 7, 8, 9, 10, 11, 12, 13, 14])
(.seq (.reg false [⟨some 63, .mv (.tmp 2), none, [2], []⟩,
    ⟨some 64, .call 26 [(.tmp 63)], none, [63], []⟩,
    ⟨some 65, .mv (.tmp 3), none, [3], []⟩,
    ⟨some 66, .call 26 [(.tmp 65)], none, [65], []⟩,
    ⟨some 67, .bin .add (.tmp 64) (.tmp 66), none, [64, 66], []⟩,
    ⟨some 68, .mv (.tmp 5), none, [5], []⟩,
    ⟨some 69, .call 26 [(.tmp 68)], none, [68], []⟩,
    ⟨some 70, .bin .add (.tmp 67) (.tmp 69), none, [67, 69], []⟩,
    ⟨some 71, .mv (.tmp 6), none, [6], []⟩,
    ⟨some 72, .call 26 [(.tmp 71)], none, [71], []⟩,
    ⟨some 73, .bin .add (.tmp 70) (.tmp 72), none, [70, 72], []⟩,
    ⟨some 74, .mv (.tmp 8), none, [8], []⟩,
    ⟨some 75, .call 26 [(.tmp 74)], none, [74], []⟩,
    ⟨some 76, .bin .add (.tmp 73) (.tmp 75), none, [73, 75], []⟩,
    ⟨some 77, .mv (.tmp 10), none, [10], []⟩,
    ⟨some 78, .call 26 [(.tmp 77)], none, [77], []⟩,
    ⟨some 79, .bin .add (.tmp 76) (.tmp 78), none, [76, 78], []⟩,
    ⟨some 80, .mv (.tmp 11), none, [11], []⟩,
    ⟨some 81, .call 26 [(.tmp 80)], none, [80], []⟩,
    ⟨some 82, .bin .add (.tmp 79) (.tmp 81), none, [79, 81], []⟩,
    ⟨some 83, .mv (.tmp 14), none, [14], []⟩,
    ⟨some 84, .call 26 [(.tmp 83)], none, [83], []⟩,
    ⟨some 85, .bin .add (.tmp 82) (.tmp 84), none, [82, 84], []⟩,
    ⟨some 86, .bin .eql (.tmp 85) (.const (.int .i64 (0))), none, [85], []⟩,
    ⟨some 87, .mv (.tmp 86), none, [86], []⟩,
    ⟨some 88, .mv (.tmp 4), some (87, true), [4, 87], []⟩,
    ⟨some 89, .bin .eql (.tmp 88) (.const (.int .i64 (0))), some (87, true), [88, 87], []⟩,
    ⟨some 90, .pick (.tmp 87) (.tmp 89) (.const (.bool false)), none, [87, 89], []⟩,
    ⟨some 91, .mv (.tmp 90), none, [90], []⟩,
    ⟨some 92, .mv (.tmp 7), some (91, true), [7, 91], []⟩,
    ⟨some 93, .bin .eql (.tmp 92) (.const (.int .i64 (1))), some (91, true), [92, 91], []⟩,
    ⟨some 94, .pick (.tmp 91) (.tmp 93) (.const (.bool false)), none, [91, 93], []⟩,
    ⟨some 95, .mv (.tmp 94), none, [94], []⟩,
    ⟨some 96, .mv (.tmp 9), some (95, true), [9, 95], []⟩,
    ⟨some 97, .len false (.tmp 96), some (95, true), [96, 95], []⟩,
    ⟨some 98, .bin .eql (.tmp 97) (.const (.int .i64 (0))), some (95, true), [97, 95], []⟩,
    ⟨some 99, .pick (.tmp 95) (.tmp 98) (.const (.bool false)), none, [95, 98], []⟩,
    ⟨some 100, .mv (.tmp 99), none, [99], []⟩,
    ⟨some 101, .mv (.tmp 13), some (100, true), [13, 100], []⟩,
    ⟨some 102, .pick (.tmp 100) (.tmp 101) (.const (.bool false)), none, [100, 101], []⟩,
    ⟨some 103, .mv (.tmp 102), none, [102], []⟩,
    ⟨some 104, .mv (.tmp 12), some (103, true), [12, 103], []⟩,
    ⟨some 105, .b2s (.tmp 104), some (103, true), [104, 103], []⟩,
    ⟨some 106, .bin .eql (.tmp 105) (.const (.string (ByteArray.mk #[98]))), some (103, true), [105, 103], []⟩,
    ⟨some 107, .pick (.tmp 103) (.tmp 106) (.const (.bool false)), none, [103, 106], []⟩,
    ⟨some 0, .mv (.tmp 107), none, [107], []⟩] [0])
.ret))))))))))
theorem ok_28 : FnOk Try.prog 28 108 ac_28 [.tmp 0] := ⟨Try.f28, Try.func28, by kernel_rfl, by kernel_rfl, by kernel_rfl, by kernel_rfl, by kernel_rfl⟩
def ac_4 : AC :=
(.seq (.reg false [⟨some 2, .box 32 (.tmp 0), none, [0], []⟩,
    ⟨some 4, .mv (.const (.bool false)), none, [], []⟩] [1, 2])
(.seq (.reg false [⟨some 20, .load true 4 (.tmp 2), none, [2], []⟩,
    ⟨some 21, .call 18 [(.tmp 20)], none, [20], []⟩,
    ⟨some 5, .new 36 [(.slice none 0 0), (.slice none 0 0), (.slice none 0 0), (.int .i64 (0))], none, [], []⟩,
    ⟨none, .store 4 (.tmp 5) (.tmp 21), none, [5, 21], []⟩] [1, 2, 5])
(.seq (.reg false [⟨some 23, .load true 4 (.tmp 5), none, [5], []⟩,
    ⟨some 24, .call 19 [(.tmp 23)], none, [23], []⟩,
    ⟨some 22, .mv (.tmp 24), none, [24], []⟩,
    ⟨some 25, .ext 0 (.tmp 22), none, [22], []⟩,
    ⟨some 26, .ext 1 (.tmp 22), none, [22], []⟩,
    ⟨some 27, .ext 2 (.tmp 22), none, [22], []⟩,
    ⟨some 6, .new 36 [(.slice none 0 0), (.slice none 0 0), (.slice none 0 0), (.int .i64 (0))], none, [], []⟩,
    ⟨none, .store 4 (.tmp 6) (.tmp 25), none, [6, 25], []⟩,
    ⟨some 7, .mv (.tmp 26), none, [26], []⟩,
    ⟨some 8, .mv (.tmp 27), none, [27], []⟩] [1, 2, 5, 6, 7, 8])
(.seq (.reg false [⟨some 29, .load true 4 (.tmp 2), none, [2], []⟩,
    ⟨some 30, .call 20 [(.tmp 29)], none, [29], []⟩,
    ⟨some 28, .mv (.tmp 30), none, [30], []⟩,
    ⟨some 31, .ext 0 (.tmp 28), none, [28], []⟩,
    ⟨some 32, .ext 1 (.tmp 28), none, [28], []⟩,
    ⟨some 33, .ext 2 (.tmp 28), none, [28], []⟩,
    ⟨some 9, .new 32 [(.slice none 0 0), (.slice none 0 0), (.slice none 0 0), (.int .i64 (0))], none, [], []⟩,
    ⟨none, .store 4 (.tmp 9) (.tmp 31), none, [9, 31], []⟩,
    ⟨some 10, .mv (.tmp 32), none, [32], []⟩,
    ⟨some 11, .mv (.tmp 33), none, [33], []⟩] [1, 2, 5, 6, 7, 8, 9, 10, 11])
(.seq (.reg false [⟨some 35, .load true 4 (.tmp 5), none, [5], []⟩,
    ⟨some 36, .mv (.tmp 1), none, [1], []⟩,
    ⟨some 37, .call 21 [(.tmp 35), (.tmp 36)], none, [35, 36], []⟩,
    ⟨some 34, .mv (.tmp 37), none, [37], []⟩,
    ⟨some 38, .ext 0 (.tmp 34), none, [34], []⟩,
    ⟨some 39, .ext 1 (.tmp 34), none, [34], []⟩,
    ⟨some 12, .mv (.tmp 38), none, [38], []⟩,
    ⟨some 13, .mv (.tmp 39), none, [39], []⟩] [1, 2, 5, 6, 7, 8, 9, 10, 11, 12, 13])
(.seq (.reg false [⟨some 41, .load true 4 (.tmp 2), none, [2], []⟩,
    ⟨some 42, .mv (.tmp 1), none, [1], []⟩,
    ⟨some 43, .call 22 [(.tmp 41), (.tmp 42)], none, [41, 42], []⟩,
    ⟨some 40, .mv (.tmp 43), none, [43], []⟩,
    ⟨some 44, .ext 0 (.tmp 40), none, [40], []⟩,
    ⟨some 45, .ext 1 (.tmp 40), none, [40], []⟩,
    ⟨some 14, .mv (.tmp 44), none, [44], []⟩,
    ⟨some 15, .mv (.tmp 45), none, [45], []⟩] [1, 2, 5, 6, 7, 8, 9, 10, 11, 12, 13, 14, 15])
(.seq (.reg false [⟨some 47, .load true 4 (.tmp 5), none, [5], []⟩,
    ⟨some 48, .mv (.tmp 1), none, [1], []⟩,
    ⟨some 49, .call 23 [(.tmp 47), (.tmp 48)], none, [47, 48], []⟩,
    ⟨some 46, .mv (.tmp 49), none, [49], []⟩,
    ⟨some 50, .ext 0 (.tmp 46), none, [46], []⟩,
    ⟨some 51, .ext 1 (.tmp 46), none, [46], []⟩,
    ⟨some 16, .new 36 [(.slice none 0 0), (.slice none 0 0), (.slice none 0 0), (.int .i64 (0))], none, [], []⟩,
    ⟨none, .store 4 (.tmp 16) (.tmp 50), none, [16, 50], []⟩,
    ⟨some 17, .mv (.tmp 51), none, [51], []⟩] [1, 2, 5, 6, 7, 8, 9, 10, 11, 12, 13, 14, 15, 16, 17])
(.seq (.reg false [⟨some 53, .load true 4 (.tmp 2), none, [2], []⟩,
    ⟨some 54, .mv (.tmp 1), none, [1], []⟩,
    ⟨some 55, .call 24 [(.tmp 53), (.tmp 54)], none, [53, 54], []⟩,
    ⟨some 52, .mv (.tmp 55), none, [55], []⟩,
    ⟨some 56, .ext 0 (.tmp 52), none, [52], []⟩,
    ⟨some 57, .ext 1 (.tmp 52), none, [52], []⟩,
    ⟨some 18, .new 32 [(.slice none 0 0), (.slice none 0 0), (.slice none 0 0), (.int .i64 (0))], none, [], []⟩,
    ⟨none, .store 4 (.tmp 18) (.tmp 56), none, [18, 56], []⟩,
    ⟨some 19, .mv (.tmp 57), none, [57], []⟩] [2, 5, 6, 7, 8, 9, 10, 11, 12, 13, 14, 15, 16, 17, 18, 19])
(.seq (.reg false [⟨some 58, .load true 4 (.tmp 6), none, [6], []⟩,
    ⟨some 59, .load true 4 (.tmp 9), none, [9], []⟩,
    ⟨some 60, .call 25 [(.tmp 58), (.tmp 59)], none, [58, 59], []⟩,
    ⟨some 61, .bin .eql (.tmp 60) (.const (.int .i64 (0))), none, [60], []⟩,
    ⟨some 62, .mv (.tmp 61), none, [61], []⟩,
    ⟨some 63, .mv (.tmp 7), some (62, true), [7, 62], []⟩,
    ⟨some 64, .mv (.tmp 10), some (62, true), [10, 62], []⟩,
    ⟨some 65, .bin .eql (.tmp 63) (.tmp 64), some (62, true), [63, 64, 62], []⟩,
    ⟨some 66, .pick (.tmp 62) (.tmp 65) (.const (.bool false)), none, [62, 65], []⟩,
    ⟨some 67, .mv (.tmp 66), none, [66], []⟩,
    ⟨some 68, .mv (.tmp 8), some (67, true), [8, 67], []⟩,
    ⟨some 69, .call 26 [(.tmp 68)], some (67, true), [68, 67], []⟩,
    ⟨some 70, .mv (.tmp 11), some (67, true), [11, 67], []⟩,
    ⟨some 71, .bin .eql (.tmp 69) (.tmp 70), some (67, true), [69, 70, 67], []⟩,
    ⟨some 72, .pick (.tmp 67) (.tmp 71) (.const (.bool false)), none, [67, 71], []⟩,
    ⟨some 73, .mv (.tmp 72), none, [72], []⟩,
    ⟨some 74, .mv (.tmp 12), some (73, true), [12, 73], []⟩,
    ⟨some 75, .mv (.tmp 14), some (73, true), [14, 73], []⟩,
    ⟨some 76, .call 27 [(.tmp 74), (.tmp 75)], some (73, true), [74, 75, 73], []⟩,
    ⟨some 77, .bin .eql (.tmp 76) (.const (.int .i64 (0))), some (73, true), [76, 73], []⟩,
    ⟨some 78, .pick (.tmp 73) (.tmp 77) (.const (.bool false)), none, [73, 77], []⟩,
    ⟨some 79, .mv (.tmp 78), none, [78], []⟩,
    ⟨some 80, .mv (.tmp 13), some (79, true), [13, 79], []⟩,
    ⟨some 81, .call 26 [(.tmp 80)], some (79, true), [80, 79], []⟩,
    ⟨some 82, .mv (.tmp 15), some (79, true), [15, 79], []⟩,
    ⟨some 83, .bin .eql (.tmp 81) (.tmp 82), some (79, true), [81, 82, 79], []⟩,
    ⟨some 84, .pick (.tmp 79) (.tmp 83) (.const (.bool false)), none, [79, 83], []⟩,
    ⟨some 85, .mv (.tmp 84), none, [84], []⟩,
    ⟨some 86, .load true 4 (.tmp 16), some (85, true), [16, 85], []⟩,
    ⟨some 87, .load true 4 (.tmp 18), some (85, true), [18, 85], []⟩,
    ⟨some 88, .call 25 [(.tmp 86), (.tmp 87)], some (85, true), [86, 87, 85], []⟩,
    ⟨some 89, .bin .eql (.tmp 88) (.const (.int .i64 (0))), some (85, true), [88, 85], []⟩,
    ⟨some 90, .pick (.tmp 85) (.tmp 89) (.const (.bool false)), none, [85, 89], []⟩,
    ⟨some 91, .mv (.tmp 90), none, [90], []⟩,
    ⟨some 92, .mv (.tmp 17), some (91, true), [17, 91], []⟩,
    ⟨some 93, .call 26 [(.tmp 92)], some (91, true), [92, 91], []⟩,
    ⟨some 94, .mv (.tmp 19), some (91, true), [19, 91], []⟩,
    ⟨some 95, .bin .eql (.tmp 93) (.tmp 94), some (91, true), [93, 94, 91], []⟩,
    ⟨some 96, .pick (.tmp 91) (.tmp 95) (.const (.bool false)), none, [91, 95], []⟩,
    ⟨some 97, .mv (.tmp 96), none, [96], []⟩,
    ⟨some 98, .load true 4 (.tmp 5), some (97, true), [5, 97], []⟩,
    ⟨some 99, .load true 4 (.tmp 2), some (97, true), [2, 97], []⟩,
    ⟨some 100, .call 25 [(.tmp 98), (.tmp 99)], some (97, true), [98, 99, 97], []⟩,
    ⟨some 101, .bin .eql (.tmp 100) (.const (.int .i64 (0))), some (97, true), [100, 97], []⟩,
    ⟨some 102, .pick (.tmp 97) (.tmp 101) (.const (.bool false)), none, [97, 101], []⟩,
    ⟨some 103, .mv (.tmp 102), none, [102], []⟩,
    ⟨some 104, .call 28 [], some (103, true), [103], []⟩,
    ⟨some 105, .pick (.tmp 103) (.tmp 104) (.const (.bool false)), none, [103, 104], []⟩,
    ⟨some 4, .mv (.tmp 105), none, [105], []⟩] [4])
.ret)))))))))
theorem ok_4 : FnOk Try.prog 4 106 ac_4 [.tmp 4] := ⟨Try.f4, Try.func4, by kernel_rfl, by kernel_rfl, by kernel_rfl, by kernel_rfl, by kernel_rfl⟩
end Go.Proofs.Ytfoeddmbhmfjcaa
/- log.New; states that fit stay so; alive. -/
namespace Go.Proofs.Ytfoeddmbhmfjcaa
open Go.RowKit
set_option maxRecDepth 100000
theorem ok_sz {s : St} (h : okSt s) : SZ s := by
  obtain ⟨⟨h1, h2⟩, ⟨h3, _⟩, ⟨h4, h5⟩, _⟩ := h
  unfold reachB at *
  refine ⟨by omega, by omega, by omega, fun b hb => ?_, fun g hg => ?_, fun g hg b hb => ?_⟩
  · have := (h5 b hb).2.2.1; unfold reachB at this; omega
  · have := (h2 g hg).2.1; unfold reachB at this; omega
  · have := ((h2 g hg).2.2 b hb).2.2.1; unfold reachB at this; omega
theorem wf64_of {x : Int} (h1 : -9223372036854775808 ≤ x) (h2 : x ≤ 9223372036854775807) : wf64 x := wf_i64 h1 h2
theorem okSt_zero : okSt St.zero := ⟨⟨by decide, by simp [St.zero]⟩, ⟨by decide, by simp⟩, ⟨by decide, by simp [St.zero]⟩, wf64_of (by decide) (by decide)⟩
theorem okSt_put {s : St} {b : Blk} (h : okSt s) (hb : okBlk b) : okSt (putSt s b) := by
  unfold putSt
  split
  · rename_i h0
    have h8 : s.opn.length ≤ 8 := by
      unfold putErr at h0
      split at h0
      · rename_i hc; exact ((chk_iff s).1 hc).opn8
      · cases h0
    refine ⟨h.1, h.2.1, ⟨by simp; unfold reachB; omega, fun x hx => ?_⟩, h.2.2.2⟩
    rcases List.mem_append.1 hx with h1 | h1
    · exact h.2.2.1.2 x h1
    · simp at h1; subst h1; exact hb
  · exact okSt_zero
theorem okSt_seal {s : St} (h : okSt s) : okSt (slSt s) := by
  unfold slSt
  split
  · rename_i h0
    have hn : s.next < 1099511627776 ∧ 1 ≤ s.next := by
      unfold slErr at h0
      split at h0
      · rename_i hc
        have h1 := ((chk_iff s).1 hc).nextM
        have h2 := ((chk_iff s).1 hc).next1
        split at h0
        · cases h0
        · split at h0
          · cases h0
          · split at h0
            · cases h0
            · omega
      · cases h0
    unfold sealSt
    refine ⟨⟨by simp only [List.length_set]; exact h.1.1, fun x hx => ?_⟩, h.2.1, ⟨by simp, by simp⟩, wf64_of (by show _ ≤ s.next + 1; omega) (by show s.next + 1 ≤ _; omega)⟩
    rcases List.mem_or_eq_of_mem_set hx with h1 | h1
    · exact h.1.2 x h1
    · subst h1; exact ⟨h.2.2.2, h.2.2.1⟩
  · exact okSt_zero
theorem okSt_free {s : St} {slot : Int} (h : okSt s) : okSt (frSt s slot) := by
  unfold frSt
  split
  · unfold freeSt
    refine ⟨⟨by simp only [List.length_set]; exact h.1.1, fun x hx => ?_⟩, h.2.1, h.2.2.1, h.2.2.2⟩
    rcases List.mem_or_eq_of_mem_set hx with h1 | h1
    · exact h.1.2 x h1
    · subst h1; exact ⟨wf64_of (by decide) (by decide), by simp, by simp⟩
  · exact okSt_zero
def newSt (n : Nat) : St := ⟨List.replicate n ⟨0, []⟩, List.replicate n false, [], 1⟩
theorem okSt_new {n : Nat} (h : n ≤ 64) : okSt (newSt n) := by
  unfold newSt
  refine ⟨⟨by simp; unfold reachB; omega, fun x hx => ?_⟩, ⟨by simp; unfold reachB; omega, by simp⟩, ⟨by simp, by simp⟩, wf64_of (x := 1) (by decide) (by decide)⟩
  rw [List.mem_replicate] at hx
  rw [hx.2]
  exact ⟨wf64_of (by decide) (by decide), by simp, by simp⟩
abbrev newRow (n : Nat) : List AV := (List.replicate n [AV.v (.int .i64 0), AV.v (.slice none 0 0)]).flatten
theorem imp_newSegs : ∀ n : Nat, ImpL (newRow n) (eSegs true (List.replicate n ⟨0, []⟩))
  | 0 => trivial
  | n + 1 => by
    have ih := imp_newSegs n
    simp only [newRow, eSegs, List.replicate_succ, List.flatten_cons, List.flatMap_cons] at ih ⊢
    exact ⟨Imp.refl _, Imp.nil _, ih⟩
theorem pu_newSegs : ∀ n : Nat, PuL (newRow n)
  | 0 => trivial
  | n + 1 => by
    have ih := pu_newSegs n
    simp only [newRow, List.replicate_succ, List.flatten_cons] at ih ⊢
    exact ⟨trivial, trivial, ih⟩
theorem len_newRow (n : Nat) : (newRow n).length = n * 2 := by simp [newRow]
theorem new_spec (n : Nat) (nb : Nat) (h1 : 1 ≤ n) (h2 : n ≤ 64) : ASound Try.prog 47 [.v (.int .i64 n)] nb (.ret (.tup [aSt true (newSt n), .v (.int .i64 0)]) []) := by
  refine ok_47.sound (by simp) ⟨trivial, trivial⟩ ?_
  simp only [ac_47, SS, boxA, cellsOf, foffA, loadA, ldA, idxA, fldA, binA, binVal, isSh, intVal, lenA, slenA, pickA, storeA, setN, getN, fillA, extA, beqA, eqsA, eqL, isnilA, unA, unVal, convA, nilA, sconvA, b2sA, b2sOf, bytesOf, mmA, srcA, appA, sliceA, lohi, mkslA, envA, ↓reduceIte, Nat.reduceEqDiff, Nat.reduceAdd, Nat.reduceMul, reduceCtorEq, Nat.reduceLeDiff, fB, fBools, fBlks, fSegs, aBlk, aSg, aSt, stRow, List.drop_zero, List.take_succ_cons, List.take_zero, List.take_nil, Nat.mul_one, Nat.one_mul, List.cons_append, List.nil_append]
  have e1 : ¬ (n : Int) < 1 := by omega
  have e2 : ¬ (64 : Int) < (n : Int) := by omega
  have eb : (List.replicate n [AV.v (.bool false)]).flatten = eBools (List.replicate n false) := by simp [eBools]
  have t1 : List.take n (eBools (List.replicate n false)) = eBools (List.replicate n false) := List.take_of_length_le (by simp [len_Bools])
  have t2 : List.take (n * 2) (newRow n) = newRow n := List.take_of_length_le (by rw [len_newRow]; exact Nat.le_refl _)
  simp only [e1, e2, not_false_eq_true, SS, boxA, cellsOf, foffA, loadA, ldA, idxA, fldA, binA, binVal, isSh, intVal, lenA, slenA, pickA, storeA, setN, getN, fillA, extA, beqA, eqsA, eqL, isnilA, unA, unVal, convA, nilA, sconvA, b2sA, b2sOf, bytesOf, mmA, srcA, appA, sliceA, lohi, mkslA, envA, ↓reduceIte, Nat.reduceEqDiff, Nat.reduceAdd, Nat.reduceMul, reduceCtorEq, Nat.reduceLeDiff, fB, fBools, fBlks, fSegs, aBlk, aSg, aSt, stRow, List.drop_zero, List.take_succ_cons, List.take_zero, List.take_nil, Nat.mul_one, Nat.one_mul, List.cons_append, List.nil_append]
  rw [if_pos (by omega), if_pos (by omega)]
  rw [eb]
  refine ⟨by rfl, Ends.weak (Weak.trans (Weak.freezeC 704 rfl (l := [(2, .op 0 0), (3, .v (.int .i64 0))])
      (h := [(0, .row true 36 [.os 576 0 n 2, .fs true (eBools (List.replicate n false)) n, .v (.slice none 0 0), .v (.int .i64 1)]), (576, .row true 62 (newRow n))]) ?_ ?_)
    (Weak.freezeC 576 rfl (l := [(2, .op 0 0), (3, .v (.int .i64 0))])
      (h := [(0, .row true 36 [.fs true (newRow n) n, .fs true (eBools (List.replicate n false)) n, .v (.slice none 0 0), .v (.int .i64 1)])]) ?_ ?_)) ?_⟩
  · simp [tk_B, tk_Bools, tk_Blks, tk_Segs, AlL_append, renL_append, okL, okH, rowIs, okV, okHV, rowVt, vtL, okF, okHF, rowFz, fzL, fzV, fzOne, nilLike, oldLike, rn, s_envOf, s_envOf0, s_heapOf, s_heapOf0, s_put, s_put0, s_put1, s_app0, s_app1, Al, AlL, ren, renL, al_B, al_Bools, al_Blks, al_Segs, ren_B, ren_Bools, ren_Blks, ren_Segs, fB, fBools, fBlks, fSegs]
  · simp [t1, tk_B, tk_Bools, tk_Blks, tk_Segs, AlL_append, renL_append, okL, okH, rowIs, okV, okHV, rowVt, vtL, okF, okHF, rowFz, fzL, fzV, fzOne, nilLike, oldLike, rn, s_envOf, s_envOf0, s_heapOf, s_heapOf0, s_put, s_put0, s_put1, s_app0, s_app1, Al, AlL, ren, renL, al_B, al_Bools, al_Blks, al_Segs, ren_B, ren_Bools, ren_Blks, ren_Segs, fB, fBools, fBlks, fSegs]
  · simp [tk_B, tk_Bools, tk_Blks, tk_Segs, AlL_append, renL_append, okL, okH, rowIs, okV, okHV, rowVt, vtL, okF, okHF, rowFz, fzL, fzV, fzOne, nilLike, oldLike, rn, s_envOf, s_envOf0, s_heapOf, s_heapOf0, s_put, s_put0, s_put1, s_app0, s_app1, Al, AlL, ren, renL, al_B, al_Bools, al_Blks, al_Segs, ren_B, ren_Bools, ren_Blks, ren_Segs, fB, fBools, fBlks, fSegs]
  · simp [t2, tk_B, tk_Bools, tk_Blks, tk_Segs, AlL_append, renL_append, okL, okH, rowIs, okV, okHV, rowVt, vtL, okF, okHF, rowFz, fzL, fzV, fzOne, nilLike, oldLike, rn, s_envOf, s_envOf0, s_heapOf, s_heapOf0, s_put, s_put0, s_put1, s_app0, s_app1, Al, AlL, ren, renL, al_B, al_Bools, al_Blks, al_Segs, ren_B, ren_Bools, ren_Blks, ren_Segs, fB, fBools, fBlks, fSegs]
  · refine Ends.imp (.inr rfl) (r0 := .tup [.agg [.fs true (newRow n) n, .fs true (eBools (List.replicate n false)) n, .v (.slice none 0 0), .v (.int .i64 1)], .v (.int .i64 0)]) (by simp [resL, resOne, tupOf, getN, s_envOf, s_envOf0, s_heapOf, s_heapOf0, s_put1, s_app0, s_app1]) ⟨⟨pu_newSegs n, al_Bools _, trivial, trivial, trivial⟩, trivial, trivial⟩ (Imp.tupL ⟨Imp.aggL ⟨?_, ?_, Imp.nil _, Imp.refl _, trivial⟩, Imp.refl _, trivial⟩)
    · have := ImpL_get (imp_newSegs n)
      show Imp (.fs true (newRow n) n) (.fs true (eSegs true (List.replicate n ⟨0, []⟩)) (List.replicate n (⟨0, []⟩ : Sg)).length)
      rw [List.length_replicate]
      exact Imp.fs (fun h => h) this.1 this.2
    · show Imp (.fs true (eBools (List.replicate n false)) n) (.fs true (eBools (List.replicate n false)) (List.replicate n false).length)
      rw [List.length_replicate]
      exact Imp.refl _
end Go.Proofs.Ytfoeddmbhmfjcaa
/- The law's alive. -/
namespace Go.Proofs.Ytfoeddmbhmfjcaa
open Go.RowKit
set_option maxRecDepth 100000
def al0 : St := newSt 2
def al1 : St := putSt al0 ⟨1, 0, [97]⟩
def al2 : St := slSt al1
def al3 : St := putSt al2 ⟨1, 0, [98]⟩
def al4 : St := slSt al3
def al5 : St := frSt al4 0
theorem al_ok0 : okSt al0 := okSt_new (by decide)
theorem ok_one {x : Int} (h : (Lit.int .u8 x).wf = true) : okBlk ⟨1, 0, [x]⟩ := ⟨wf64_of (x := 1) (by decide) (by decide), wf64_of (x := 0) (by decide) (by decide), by simp [reachB], fun y hy => by simp at hy; subst hy; exact h⟩
theorem al_ok1 : okSt al1 := okSt_put al_ok0 (ok_one (by decide))
theorem al_ok2 : okSt al2 := okSt_seal al_ok1
theorem al_ok3 : okSt al3 := okSt_put al_ok2 (ok_one (by decide))
theorem al_ok4 : okSt al4 := okSt_seal al_ok3
theorem al_ok5 : okSt al5 := okSt_free al_ok4
theorem al_e1 : putErr al0 ⟨1, 0, [97]⟩ = 0 := by kernel_rfl
theorem al_e2 : slErr al1 = 0 := by kernel_rfl
theorem al_a2 : slAt al1 = 0 := by kernel_rfl
theorem al_e3 : putErr al2 ⟨1, 0, [98]⟩ = 0 := by kernel_rfl
theorem al_e4 : slErr al3 = 0 := by kernel_rfl
theorem al_a4 : slAt al3 = 1 := by kernel_rfl
theorem al_e5 : liveErr al4 0 = 0 := by kernel_rfl
theorem al_l5 : liveL al4 0 = [] := by kernel_rfl
theorem al_e6 : frErr al4 0 = 0 := by kernel_rfl
theorem al_g : getB al5 1 0 = [98] := by kernel_rfl
theorem al_is : getIs al5 1 0 = true := by kernel_rfl
theorem al_e7 : errOf (chk al5) = 0 := by kernel_rfl
set_option maxHeartbeats 1000000 in
theorem alive_spec (nb : Nat) : ASound Try.prog 28 [] nb (.ret (.v (.bool true)) []) := by
  refine ok_28.sound (by simp) trivial ?_
  simp only [ac_28, SS, boxA, cellsOf, foffA, loadA, ldA, idxA, fldA, binA, binVal, isSh, intVal, lenA, slenA, pickA, storeA, setN, getN, fillA, extA, beqA, eqsA, eqL, isnilA, unA, unVal, convA, nilA, sconvA, b2sA, b2sOf, bytesOf, mmA, srcA, appA, sliceA, lohi, mkslA, envA, ↓reduceIte, Nat.reduceEqDiff, Nat.reduceAdd, Nat.reduceMul, reduceCtorEq, Nat.reduceLeDiff, fB, fBools, fBlks, fSegs, aBlk, aSg, aSt, stRow, List.drop_zero, List.take_succ_cons, List.take_zero, List.take_nil, Nat.mul_one, Nat.one_mul, List.cons_append, List.nil_append]
  refine ⟨_, new_spec 2 _ (by decide) (by decide), ?_⟩
  rw [show newSt 2 = al0 from rfl]
  simp only [SS, boxA, cellsOf, foffA, loadA, ldA, idxA, fldA, binA, binVal, isSh, intVal, lenA, slenA, pickA, storeA, setN, getN, fillA, extA, beqA, eqsA, eqL, isnilA, unA, unVal, convA, nilA, sconvA, b2sA, b2sOf, bytesOf, mmA, srcA, appA, sliceA, lohi, mkslA, envA, ↓reduceIte, Nat.reduceEqDiff, Nat.reduceAdd, Nat.reduceMul, reduceCtorEq, Nat.reduceLeDiff, fB, fBools, fBlks, fSegs, aBlk, aSg, aSt, stRow, List.drop_zero, List.take_succ_cons, List.take_zero, List.take_nil, Nat.mul_one, Nat.one_mul, List.cons_append, List.nil_append]
  refine ⟨_, logPut_A true true al0 ⟨1, 0, [97]⟩ _ al_ok0 (ok_one (by decide)), ?_⟩
  rw [show putSt al0 ⟨1, 0, [97]⟩ = al1 from rfl, al_e1]
  simp only [SS, boxA, cellsOf, foffA, loadA, ldA, idxA, fldA, binA, binVal, isSh, intVal, lenA, slenA, pickA, storeA, setN, getN, fillA, extA, beqA, eqsA, eqL, isnilA, unA, unVal, convA, nilA, sconvA, b2sA, b2sOf, bytesOf, mmA, srcA, appA, sliceA, lohi, mkslA, envA, ↓reduceIte, Nat.reduceEqDiff, Nat.reduceAdd, Nat.reduceMul, reduceCtorEq, Nat.reduceLeDiff, fB, fBools, fBlks, fSegs, aBlk, aSg, aSt, stRow, List.drop_zero, List.take_succ_cons, List.take_zero, List.take_nil, Nat.mul_one, Nat.one_mul, List.cons_append, List.nil_append]
  refine ⟨_, logSeal_A true al1 _ al_ok1, ?_⟩
  rw [show slSt al1 = al2 from rfl, al_e2, al_a2]
  simp only [SS, boxA, cellsOf, foffA, loadA, ldA, idxA, fldA, binA, binVal, isSh, intVal, lenA, slenA, pickA, storeA, setN, getN, fillA, extA, beqA, eqsA, eqL, isnilA, unA, unVal, convA, nilA, sconvA, b2sA, b2sOf, bytesOf, mmA, srcA, appA, sliceA, lohi, mkslA, envA, ↓reduceIte, Nat.reduceEqDiff, Nat.reduceAdd, Nat.reduceMul, reduceCtorEq, Nat.reduceLeDiff, fB, fBools, fBlks, fSegs, aBlk, aSg, aSt, stRow, List.drop_zero, List.take_succ_cons, List.take_zero, List.take_nil, Nat.mul_one, Nat.one_mul, List.cons_append, List.nil_append]
  refine ⟨_, logPut_A true true al2 ⟨1, 0, [98]⟩ _ al_ok2 (ok_one (by decide)), ?_⟩
  rw [show putSt al2 ⟨1, 0, [98]⟩ = al3 from rfl, al_e3]
  simp only [SS, boxA, cellsOf, foffA, loadA, ldA, idxA, fldA, binA, binVal, isSh, intVal, lenA, slenA, pickA, storeA, setN, getN, fillA, extA, beqA, eqsA, eqL, isnilA, unA, unVal, convA, nilA, sconvA, b2sA, b2sOf, bytesOf, mmA, srcA, appA, sliceA, lohi, mkslA, envA, ↓reduceIte, Nat.reduceEqDiff, Nat.reduceAdd, Nat.reduceMul, reduceCtorEq, Nat.reduceLeDiff, fB, fBools, fBlks, fSegs, aBlk, aSg, aSt, stRow, List.drop_zero, List.take_succ_cons, List.take_zero, List.take_nil, Nat.mul_one, Nat.one_mul, List.cons_append, List.nil_append]
  refine ⟨_, logSeal_A true al3 _ al_ok3, ?_⟩
  rw [show slSt al3 = al4 from rfl, al_e4, al_a4]
  simp only [SS, boxA, cellsOf, foffA, loadA, ldA, idxA, fldA, binA, binVal, isSh, intVal, lenA, slenA, pickA, storeA, setN, getN, fillA, extA, beqA, eqsA, eqL, isnilA, unA, unVal, convA, nilA, sconvA, b2sA, b2sOf, bytesOf, mmA, srcA, appA, sliceA, lohi, mkslA, envA, ↓reduceIte, Nat.reduceEqDiff, Nat.reduceAdd, Nat.reduceMul, reduceCtorEq, Nat.reduceLeDiff, fB, fBools, fBlks, fSegs, aBlk, aSg, aSt, stRow, List.drop_zero, List.take_succ_cons, List.take_zero, List.take_nil, Nat.mul_one, Nat.one_mul, List.cons_append, List.nil_append]
  refine ⟨_, logLive_A true al4 0 _ al_ok4, ?_⟩
  rw [al_l5, al_e5]
  simp only [SS, boxA, cellsOf, foffA, loadA, ldA, idxA, fldA, binA, binVal, isSh, intVal, lenA, slenA, pickA, storeA, setN, getN, fillA, extA, beqA, eqsA, eqL, isnilA, unA, unVal, convA, nilA, sconvA, b2sA, b2sOf, bytesOf, mmA, srcA, appA, sliceA, lohi, mkslA, envA, ↓reduceIte, Nat.reduceEqDiff, Nat.reduceAdd, Nat.reduceMul, reduceCtorEq, Nat.reduceLeDiff, fB, fBools, fBlks, fSegs, aBlk, aSg, aSt, stRow, List.drop_zero, List.take_succ_cons, List.take_zero, List.take_nil, Nat.mul_one, Nat.one_mul, List.cons_append, List.nil_append]
  refine ⟨_, logFree_A true al4 0 _ al_ok4, ?_⟩
  rw [show frSt al4 0 = al5 from rfl, al_e6]
  simp only [SS, boxA, cellsOf, foffA, loadA, ldA, idxA, fldA, binA, binVal, isSh, intVal, lenA, slenA, pickA, storeA, setN, getN, fillA, extA, beqA, eqsA, eqL, isnilA, unA, unVal, convA, nilA, sconvA, b2sA, b2sOf, bytesOf, mmA, srcA, appA, sliceA, lohi, mkslA, envA, ↓reduceIte, Nat.reduceEqDiff, Nat.reduceAdd, Nat.reduceMul, reduceCtorEq, Nat.reduceLeDiff, fB, fBools, fBlks, fSegs, aBlk, aSg, aSt, stRow, List.drop_zero, List.take_succ_cons, List.take_zero, List.take_nil, Nat.mul_one, Nat.one_mul, List.cons_append, List.nil_append]
  refine ⟨_, logGet_A true al5 1 0 _ al_ok5, ?_⟩
  rw [al_g, al_is, al_e7]
  simp only [SS, boxA, cellsOf, foffA, loadA, ldA, idxA, fldA, binA, binVal, isSh, intVal, lenA, slenA, pickA, storeA, setN, getN, fillA, extA, beqA, eqsA, eqL, isnilA, unA, unVal, convA, nilA, sconvA, b2sA, b2sOf, bytesOf, mmA, srcA, appA, sliceA, lohi, mkslA, envA, ↓reduceIte, Nat.reduceEqDiff, Nat.reduceAdd, Nat.reduceMul, reduceCtorEq, Nat.reduceLeDiff, fB, fBools, fBlks, fSegs, aBlk, aSg, aSt, stRow, List.drop_zero, List.take_succ_cons, List.take_zero, List.take_nil, Nat.mul_one, Nat.one_mul, List.cons_append, List.nil_append]
  have w0 : IntKind.i64.wrap (0 + 0) = 0 := rfl
  refine ⟨_, num15_spec 0 _, ?_⟩
  simp only [w0, SS, boxA, cellsOf, foffA, loadA, ldA, idxA, fldA, binA, binVal, isSh, intVal, lenA, slenA, pickA, storeA, setN, getN, fillA, extA, beqA, eqsA, eqL, isnilA, unA, unVal, convA, nilA, sconvA, b2sA, b2sOf, bytesOf, mmA, srcA, appA, sliceA, lohi, mkslA, envA, ↓reduceIte, Nat.reduceEqDiff, Nat.reduceAdd, Nat.reduceMul, reduceCtorEq, Nat.reduceLeDiff, fB, fBools, fBlks, fSegs, aBlk, aSg, aSt, stRow, List.drop_zero, List.take_succ_cons, List.take_zero, List.take_nil, Nat.mul_one, Nat.one_mul, List.cons_append, List.nil_append]
  refine ⟨_, num15_spec 0 _, ?_⟩
  simp only [w0, SS, boxA, cellsOf, foffA, loadA, ldA, idxA, fldA, binA, binVal, isSh, intVal, lenA, slenA, pickA, storeA, setN, getN, fillA, extA, beqA, eqsA, eqL, isnilA, unA, unVal, convA, nilA, sconvA, b2sA, b2sOf, bytesOf, mmA, srcA, appA, sliceA, lohi, mkslA, envA, ↓reduceIte, Nat.reduceEqDiff, Nat.reduceAdd, Nat.reduceMul, reduceCtorEq, Nat.reduceLeDiff, fB, fBools, fBlks, fSegs, aBlk, aSg, aSt, stRow, List.drop_zero, List.take_succ_cons, List.take_zero, List.take_nil, Nat.mul_one, Nat.one_mul, List.cons_append, List.nil_append]
  refine ⟨_, num15_spec 0 _, ?_⟩
  simp only [w0, SS, boxA, cellsOf, foffA, loadA, ldA, idxA, fldA, binA, binVal, isSh, intVal, lenA, slenA, pickA, storeA, setN, getN, fillA, extA, beqA, eqsA, eqL, isnilA, unA, unVal, convA, nilA, sconvA, b2sA, b2sOf, bytesOf, mmA, srcA, appA, sliceA, lohi, mkslA, envA, ↓reduceIte, Nat.reduceEqDiff, Nat.reduceAdd, Nat.reduceMul, reduceCtorEq, Nat.reduceLeDiff, fB, fBools, fBlks, fSegs, aBlk, aSg, aSt, stRow, List.drop_zero, List.take_succ_cons, List.take_zero, List.take_nil, Nat.mul_one, Nat.one_mul, List.cons_append, List.nil_append]
  refine ⟨_, num15_spec 0 _, ?_⟩
  simp only [w0, SS, boxA, cellsOf, foffA, loadA, ldA, idxA, fldA, binA, binVal, isSh, intVal, lenA, slenA, pickA, storeA, setN, getN, fillA, extA, beqA, eqsA, eqL, isnilA, unA, unVal, convA, nilA, sconvA, b2sA, b2sOf, bytesOf, mmA, srcA, appA, sliceA, lohi, mkslA, envA, ↓reduceIte, Nat.reduceEqDiff, Nat.reduceAdd, Nat.reduceMul, reduceCtorEq, Nat.reduceLeDiff, fB, fBools, fBlks, fSegs, aBlk, aSg, aSt, stRow, List.drop_zero, List.take_succ_cons, List.take_zero, List.take_nil, Nat.mul_one, Nat.one_mul, List.cons_append, List.nil_append]
  refine ⟨_, num15_spec 0 _, ?_⟩
  simp only [w0, SS, boxA, cellsOf, foffA, loadA, ldA, idxA, fldA, binA, binVal, isSh, intVal, lenA, slenA, pickA, storeA, setN, getN, fillA, extA, beqA, eqsA, eqL, isnilA, unA, unVal, convA, nilA, sconvA, b2sA, b2sOf, bytesOf, mmA, srcA, appA, sliceA, lohi, mkslA, envA, ↓reduceIte, Nat.reduceEqDiff, Nat.reduceAdd, Nat.reduceMul, reduceCtorEq, Nat.reduceLeDiff, fB, fBools, fBlks, fSegs, aBlk, aSg, aSt, stRow, List.drop_zero, List.take_succ_cons, List.take_zero, List.take_nil, Nat.mul_one, Nat.one_mul, List.cons_append, List.nil_append]
  refine ⟨_, num15_spec 0 _, ?_⟩
  simp only [w0, SS, boxA, cellsOf, foffA, loadA, ldA, idxA, fldA, binA, binVal, isSh, intVal, lenA, slenA, pickA, storeA, setN, getN, fillA, extA, beqA, eqsA, eqL, isnilA, unA, unVal, convA, nilA, sconvA, b2sA, b2sOf, bytesOf, mmA, srcA, appA, sliceA, lohi, mkslA, envA, ↓reduceIte, Nat.reduceEqDiff, Nat.reduceAdd, Nat.reduceMul, reduceCtorEq, Nat.reduceLeDiff, fB, fBools, fBlks, fSegs, aBlk, aSg, aSt, stRow, List.drop_zero, List.take_succ_cons, List.take_zero, List.take_nil, Nat.mul_one, Nat.one_mul, List.cons_append, List.nil_append]
  refine ⟨_, num15_spec 0 _, ?_⟩
  simp only [w0, SS, boxA, cellsOf, foffA, loadA, ldA, idxA, fldA, binA, binVal, isSh, intVal, lenA, slenA, pickA, storeA, setN, getN, fillA, extA, beqA, eqsA, eqL, isnilA, unA, unVal, convA, nilA, sconvA, b2sA, b2sOf, bytesOf, mmA, srcA, appA, sliceA, lohi, mkslA, envA, ↓reduceIte, Nat.reduceEqDiff, Nat.reduceAdd, Nat.reduceMul, reduceCtorEq, Nat.reduceLeDiff, fB, fBools, fBlks, fSegs, aBlk, aSg, aSt, stRow, List.drop_zero, List.take_succ_cons, List.take_zero, List.take_nil, Nat.mul_one, Nat.one_mul, List.cons_append, List.nil_append]
  refine ⟨_, num15_spec 0 _, ?_⟩
  simp only [w0, SS, boxA, cellsOf, foffA, loadA, ldA, idxA, fldA, binA, binVal, isSh, intVal, lenA, slenA, pickA, storeA, setN, getN, fillA, extA, beqA, eqsA, eqL, isnilA, unA, unVal, convA, nilA, sconvA, b2sA, b2sOf, bytesOf, mmA, srcA, appA, sliceA, lohi, mkslA, envA, ↓reduceIte, Nat.reduceEqDiff, Nat.reduceAdd, Nat.reduceMul, reduceCtorEq, Nat.reduceLeDiff, fB, fBools, fBlks, fSegs, aBlk, aSg, aSt, stRow, List.drop_zero, List.take_succ_cons, List.take_zero, List.take_nil, Nat.mul_one, Nat.one_mul, List.cons_append, List.nil_append]
  have es : strOf [98] = ByteArray.mk #[98] := rfl
  have eb : bytesOf (eB [98]) = some [98] := rfl
  simp only [es, eb, strOp, SS, boxA, cellsOf, foffA, loadA, ldA, idxA, fldA, binA, binVal, isSh, intVal, lenA, slenA, pickA, storeA, setN, getN, fillA, extA, beqA, eqsA, eqL, isnilA, unA, unVal, convA, nilA, sconvA, b2sA, b2sOf, bytesOf, mmA, srcA, appA, sliceA, lohi, mkslA, envA, ↓reduceIte, Nat.reduceEqDiff, Nat.reduceAdd, Nat.reduceMul, reduceCtorEq, Nat.reduceLeDiff, fB, fBools, fBlks, fSegs, aBlk, aSg, aSt, stRow, List.drop_zero, List.take_succ_cons, List.take_zero, List.take_nil, Nat.mul_one, Nat.one_mul, List.cons_append, List.nil_append]
  exact Ends.data (.inr rfl) (by simp [resL, resOne, tupOf, getN, s_envOf, s_envOf0, s_heapOf, s_heapOf0, s_put1, s_app0, s_app1]) trivial
end Go.Proofs.Ytfoeddmbhmfjcaa
/- LogSeals. -/
namespace Go.Proofs.Ytfoeddmbhmfjcaa
open Go.RowKit
set_option maxRecDepth 100000
theorem live_len (s : St) (slot : Int) : (liveL s slot).length ≤ 8 ∧ ∀ b ∈ liveL s slot, b.data.length ≤ 32 := by
  rw [← live_eq]
  unfold rlive
  split
  · rename_i hu
    obtain ⟨hc, k, x, rfl, hx, hf⟩ := usedE_0 hu
    have rb := rchk_RB hc
    rw [Int.toNat_natCast, hx]
    have hm := List.mem_of_getElem? hx
    exact ⟨Nat.le_trans (keepL_len s x _) (rb.seg x hm), fun b hb => rb.segD x hm b (keepL_mem hb)⟩
  · simp
theorem no01_t {α : Type} [DecidableEq α] (a : α) : no01 (a = a) = 0 := if_pos rfl
set_option maxHeartbeats 1000000 in
theorem logSeals_spec (fr : Bool) (s : St) (slot : Int) (nb : Nat) (hok : okSt s) : ASound Try.prog 4 [aSt fr s, .v (.int .i64 slot)] nb (.ret (.v (.bool true)) []) := by
  refine ok_4.sound (by simp) ⟨al_aSt s, trivial, trivial⟩ ?_
  simp only [ac_4, SS, boxA, cellsOf, foffA, loadA, ldA, idxA, fldA, binA, binVal, isSh, intVal, lenA, slenA, pickA, storeA, setN, getN, fillA, extA, beqA, eqsA, eqL, isnilA, unA, unVal, convA, nilA, sconvA, b2sA, b2sOf, bytesOf, mmA, srcA, appA, sliceA, lohi, mkslA, envA, ↓reduceIte, Nat.reduceEqDiff, Nat.reduceAdd, Nat.reduceMul, reduceCtorEq, Nat.reduceLeDiff, fB, fBools, fBlks, fSegs, aBlk, aSg, aSt, stRow, List.drop_zero, List.take_succ_cons, List.take_zero, List.take_nil, Nat.mul_one, Nat.one_mul, List.cons_append, List.nil_append]
  refine ⟨_, ofSt_spec fr s _ (ok_sz hok), ?_⟩
  simp only [SS, boxA, cellsOf, foffA, loadA, ldA, idxA, fldA, binA, binVal, isSh, intVal, lenA, slenA, pickA, storeA, setN, getN, fillA, extA, beqA, eqsA, eqL, isnilA, unA, unVal, convA, nilA, sconvA, b2sA, b2sOf, bytesOf, mmA, srcA, appA, sliceA, lohi, mkslA, envA, ↓reduceIte, Nat.reduceEqDiff, Nat.reduceAdd, Nat.reduceMul, reduceCtorEq, Nat.reduceLeDiff, fB, fBools, fBlks, fSegs, aBlk, aSg, aSt, stRow, List.drop_zero, List.take_succ_cons, List.take_zero, List.take_nil, Nat.mul_one, Nat.one_mul, List.cons_append, List.nil_append]
  refine ⟨_, logSeal_A true s _ hok, ?_⟩
  simp only [SS, boxA, cellsOf, foffA, loadA, ldA, idxA, fldA, binA, binVal, isSh, intVal, lenA, slenA, pickA, storeA, setN, getN, fillA, extA, beqA, eqsA, eqL, isnilA, unA, unVal, convA, nilA, sconvA, b2sA, b2sOf, bytesOf, mmA, srcA, appA, sliceA, lohi, mkslA, envA, ↓reduceIte, Nat.reduceEqDiff, Nat.reduceAdd, Nat.reduceMul, reduceCtorEq, Nat.reduceLeDiff, fB, fBools, fBlks, fSegs, aBlk, aSg, aSt, stRow, List.drop_zero, List.take_succ_cons, List.take_zero, List.take_nil, Nat.mul_one, Nat.one_mul, List.cons_append, List.nil_append]
  refine ⟨_, rSeal_spec fr s _, ?_⟩
  rw [(sl_eq s).1, (sl_eq s).2.1, (sl_eq s).2.2]
  simp only [SS, boxA, cellsOf, foffA, loadA, ldA, idxA, fldA, binA, binVal, isSh, intVal, lenA, slenA, pickA, storeA, setN, getN, fillA, extA, beqA, eqsA, eqL, isnilA, unA, unVal, convA, nilA, sconvA, b2sA, b2sOf, bytesOf, mmA, srcA, appA, sliceA, lohi, mkslA, envA, ↓reduceIte, Nat.reduceEqDiff, Nat.reduceAdd, Nat.reduceMul, reduceCtorEq, Nat.reduceLeDiff, fB, fBools, fBlks, fSegs, aBlk, aSg, aSt, stRow, List.drop_zero, List.take_succ_cons, List.take_zero, List.take_nil, Nat.mul_one, Nat.one_mul, List.cons_append, List.nil_append]
  refine ⟨_, logLive_A true s slot _ hok, ?_⟩
  simp only [SS, boxA, cellsOf, foffA, loadA, ldA, idxA, fldA, binA, binVal, isSh, intVal, lenA, slenA, pickA, storeA, setN, getN, fillA, extA, beqA, eqsA, eqL, isnilA, unA, unVal, convA, nilA, sconvA, b2sA, b2sOf, bytesOf, mmA, srcA, appA, sliceA, lohi, mkslA, envA, ↓reduceIte, Nat.reduceEqDiff, Nat.reduceAdd, Nat.reduceMul, reduceCtorEq, Nat.reduceLeDiff, fB, fBools, fBlks, fSegs, aBlk, aSg, aSt, stRow, List.drop_zero, List.take_succ_cons, List.take_zero, List.take_nil, Nat.mul_one, Nat.one_mul, List.cons_append, List.nil_append]
  refine ⟨_, rLive_spec fr s slot _, ?_⟩
  rw [live_eq, used_eq]
  simp only [SS, boxA, cellsOf, foffA, loadA, ldA, idxA, fldA, binA, binVal, isSh, intVal, lenA, slenA, pickA, storeA, setN, getN, fillA, extA, beqA, eqsA, eqL, isnilA, unA, unVal, convA, nilA, sconvA, b2sA, b2sOf, bytesOf, mmA, srcA, appA, sliceA, lohi, mkslA, envA, ↓reduceIte, Nat.reduceEqDiff, Nat.reduceAdd, Nat.reduceMul, reduceCtorEq, Nat.reduceLeDiff, fB, fBools, fBlks, fSegs, aBlk, aSg, aSt, stRow, List.drop_zero, List.take_succ_cons, List.take_zero, List.take_nil, Nat.mul_one, Nat.one_mul, List.cons_append, List.nil_append]
  refine ⟨_, logFree_A true s slot _ hok, ?_⟩
  simp only [SS, boxA, cellsOf, foffA, loadA, ldA, idxA, fldA, binA, binVal, isSh, intVal, lenA, slenA, pickA, storeA, setN, getN, fillA, extA, beqA, eqsA, eqL, isnilA, unA, unVal, convA, nilA, sconvA, b2sA, b2sOf, bytesOf, mmA, srcA, appA, sliceA, lohi, mkslA, envA, ↓reduceIte, Nat.reduceEqDiff, Nat.reduceAdd, Nat.reduceMul, reduceCtorEq, Nat.reduceLeDiff, fB, fBools, fBlks, fSegs, aBlk, aSg, aSt, stRow, List.drop_zero, List.take_succ_cons, List.take_zero, List.take_nil, Nat.mul_one, Nat.one_mul, List.cons_append, List.nil_append]
  refine ⟨_, rFree_spec fr s slot _, ?_⟩
  rw [(fr_eq s slot).1, (fr_eq s slot).2]
  simp only [SS, boxA, cellsOf, foffA, loadA, ldA, idxA, fldA, binA, binVal, isSh, intVal, lenA, slenA, pickA, storeA, setN, getN, fillA, extA, beqA, eqsA, eqL, isnilA, unA, unVal, convA, nilA, sconvA, b2sA, b2sOf, bytesOf, mmA, srcA, appA, sliceA, lohi, mkslA, envA, ↓reduceIte, Nat.reduceEqDiff, Nat.reduceAdd, Nat.reduceMul, reduceCtorEq, Nat.reduceLeDiff, fB, fBools, fBlks, fSegs, aBlk, aSg, aSt, stRow, List.drop_zero, List.take_succ_cons, List.take_zero, List.take_nil, Nat.mul_one, Nat.one_mul, List.cons_append, List.nil_append]
  refine ⟨_, alikeSt_spec true true (slSt s) (slSt s) _ (ok_sz (okSt_seal hok)), ?_⟩
  simp only [no01_t, SS, boxA, cellsOf, foffA, loadA, ldA, idxA, fldA, binA, binVal, isSh, intVal, lenA, slenA, pickA, storeA, setN, getN, fillA, extA, beqA, eqsA, eqL, isnilA, unA, unVal, convA, nilA, sconvA, b2sA, b2sOf, bytesOf, mmA, srcA, appA, sliceA, lohi, mkslA, envA, ↓reduceIte, Nat.reduceEqDiff, Nat.reduceAdd, Nat.reduceMul, reduceCtorEq, Nat.reduceLeDiff, fB, fBools, fBlks, fSegs, aBlk, aSg, aSt, stRow, List.drop_zero, List.take_succ_cons, List.take_zero, List.take_nil, Nat.mul_one, Nat.one_mul, List.cons_append, List.nil_append]
  refine ⟨_, num15_spec (slErr s) _, ?_⟩
  simp only [SS, boxA, cellsOf, foffA, loadA, ldA, idxA, fldA, binA, binVal, isSh, intVal, lenA, slenA, pickA, storeA, setN, getN, fillA, extA, beqA, eqsA, eqL, isnilA, unA, unVal, convA, nilA, sconvA, b2sA, b2sOf, bytesOf, mmA, srcA, appA, sliceA, lohi, mkslA, envA, ↓reduceIte, Nat.reduceEqDiff, Nat.reduceAdd, Nat.reduceMul, reduceCtorEq, Nat.reduceLeDiff, fB, fBools, fBlks, fSegs, aBlk, aSg, aSt, stRow, List.drop_zero, List.take_succ_cons, List.take_zero, List.take_nil, Nat.mul_one, Nat.one_mul, List.cons_append, List.nil_append]
  refine ⟨_, alikeBlocks_spec true true (liveL s slot) (liveL s slot) _ (by have := (live_len s slot).1; omega) (fun b hb => by have := (live_len s slot).2 b hb; omega), ?_⟩
  simp only [no01_t, SS, boxA, cellsOf, foffA, loadA, ldA, idxA, fldA, binA, binVal, isSh, intVal, lenA, slenA, pickA, storeA, setN, getN, fillA, extA, beqA, eqsA, eqL, isnilA, unA, unVal, convA, nilA, sconvA, b2sA, b2sOf, bytesOf, mmA, srcA, appA, sliceA, lohi, mkslA, envA, ↓reduceIte, Nat.reduceEqDiff, Nat.reduceAdd, Nat.reduceMul, reduceCtorEq, Nat.reduceLeDiff, fB, fBools, fBlks, fSegs, aBlk, aSg, aSt, stRow, List.drop_zero, List.take_succ_cons, List.take_zero, List.take_nil, Nat.mul_one, Nat.one_mul, List.cons_append, List.nil_append]
  refine ⟨_, num15_spec (liveErr s slot) _, ?_⟩
  simp only [SS, boxA, cellsOf, foffA, loadA, ldA, idxA, fldA, binA, binVal, isSh, intVal, lenA, slenA, pickA, storeA, setN, getN, fillA, extA, beqA, eqsA, eqL, isnilA, unA, unVal, convA, nilA, sconvA, b2sA, b2sOf, bytesOf, mmA, srcA, appA, sliceA, lohi, mkslA, envA, ↓reduceIte, Nat.reduceEqDiff, Nat.reduceAdd, Nat.reduceMul, reduceCtorEq, Nat.reduceLeDiff, fB, fBools, fBlks, fSegs, aBlk, aSg, aSt, stRow, List.drop_zero, List.take_succ_cons, List.take_zero, List.take_nil, Nat.mul_one, Nat.one_mul, List.cons_append, List.nil_append]
  refine ⟨_, alikeSt_spec true true (frSt s slot) (frSt s slot) _ (ok_sz (okSt_free hok)), ?_⟩
  simp only [no01_t, SS, boxA, cellsOf, foffA, loadA, ldA, idxA, fldA, binA, binVal, isSh, intVal, lenA, slenA, pickA, storeA, setN, getN, fillA, extA, beqA, eqsA, eqL, isnilA, unA, unVal, convA, nilA, sconvA, b2sA, b2sOf, bytesOf, mmA, srcA, appA, sliceA, lohi, mkslA, envA, ↓reduceIte, Nat.reduceEqDiff, Nat.reduceAdd, Nat.reduceMul, reduceCtorEq, Nat.reduceLeDiff, fB, fBools, fBlks, fSegs, aBlk, aSg, aSt, stRow, List.drop_zero, List.take_succ_cons, List.take_zero, List.take_nil, Nat.mul_one, Nat.one_mul, List.cons_append, List.nil_append]
  refine ⟨_, num15_spec (frErr s slot) _, ?_⟩
  simp only [SS, boxA, cellsOf, foffA, loadA, ldA, idxA, fldA, binA, binVal, isSh, intVal, lenA, slenA, pickA, storeA, setN, getN, fillA, extA, beqA, eqsA, eqL, isnilA, unA, unVal, convA, nilA, sconvA, b2sA, b2sOf, bytesOf, mmA, srcA, appA, sliceA, lohi, mkslA, envA, ↓reduceIte, Nat.reduceEqDiff, Nat.reduceAdd, Nat.reduceMul, reduceCtorEq, Nat.reduceLeDiff, fB, fBools, fBlks, fSegs, aBlk, aSg, aSt, stRow, List.drop_zero, List.take_succ_cons, List.take_zero, List.take_nil, Nat.mul_one, Nat.one_mul, List.cons_append, List.nil_append]
  refine ⟨_, alikeSt_spec true fr s s _ (ok_sz hok), ?_⟩
  simp only [no01_t, SS, boxA, cellsOf, foffA, loadA, ldA, idxA, fldA, binA, binVal, isSh, intVal, lenA, slenA, pickA, storeA, setN, getN, fillA, extA, beqA, eqsA, eqL, isnilA, unA, unVal, convA, nilA, sconvA, b2sA, b2sOf, bytesOf, mmA, srcA, appA, sliceA, lohi, mkslA, envA, ↓reduceIte, Nat.reduceEqDiff, Nat.reduceAdd, Nat.reduceMul, reduceCtorEq, Nat.reduceLeDiff, fB, fBools, fBlks, fSegs, aBlk, aSg, aSt, stRow, List.drop_zero, List.take_succ_cons, List.take_zero, List.take_nil, Nat.mul_one, Nat.one_mul, List.cons_append, List.nil_append]
  refine ⟨_, alive_spec _, ?_⟩
  simp only [SS, boxA, cellsOf, foffA, loadA, ldA, idxA, fldA, binA, binVal, isSh, intVal, lenA, slenA, pickA, storeA, setN, getN, fillA, extA, beqA, eqsA, eqL, isnilA, unA, unVal, convA, nilA, sconvA, b2sA, b2sOf, bytesOf, mmA, srcA, appA, sliceA, lohi, mkslA, envA, ↓reduceIte, Nat.reduceEqDiff, Nat.reduceAdd, Nat.reduceMul, reduceCtorEq, Nat.reduceLeDiff, fB, fBools, fBlks, fSegs, aBlk, aSg, aSt, stRow, List.drop_zero, List.take_succ_cons, List.take_zero, List.take_nil, Nat.mul_one, Nat.one_mul, List.cons_append, List.nil_append]
  exact Ends.data (.inr rfl) (by simp [resL, resOne, tupOf, getN, s_envOf, s_envOf0, s_heapOf, s_heapOf0, s_put1, s_app0, s_app1]) trivial
end Go.Proofs.Ytfoeddmbhmfjcaa
/- From a row's arguments (DataW.Trod) into abstract values, and back. -/
namespace Go.Proofs.Ytfoeddmbhmfjcaa
open Go.RowKit
/-- the moment of a call from outside -/
def cx0 (W : World) : Cx := ⟨W, W.heap.size, fun _ => none, fun _ => none, fun _ => False, fun _ => .no⟩
theorem hr0 (W : World) : HR (cx0 W) := ⟨fun id y e cells h => by simp [cx0] at h, fun id id' b h => absurd rfl h, Nat.le_refl _, fun b h => h.elim⟩
theorem ok0 (W : World) (b : Nat) : (cx0 W).ok false b := ⟨fun h => (by cases h), by rintro ⟨id, o, h, _⟩; simp [cx0] at h, fun h => h⟩
/-- a call from outside -/
theorem ASound.row {P : Program} {f : FuncId} {args : List AV} {b : Value} (h : ∀ nb, ASound P f args nb (.ret (.v b) [])) {W : World} {us : List Value} (hv : VRt (cx0 W) args us) : Calls P f us.toArray W fun e W' => e = .returned b ∧ Below W.heap.size W W' := by
  refine ((h 0).2 (cx0 W) us _ _ _ rfl (hr0 W) (fun id _ => .inl rfl) hv).mono ?_
  rintro e w' ⟨v, d, rfl, rfl, h1, h2⟩
  rw [VR] at h1
  subst h1
  refine ⟨rfl, ⟨h2.grow.osE, h2.grow.tape, h2.grow.out, h2.grow.size, fun k hk => h2.grow.stay k hk ?_ (fun h => h.elim)⟩⟩
  rintro ⟨id, o, h3, _⟩
  simp [cx0] at h3
/-- What the readings of a type say: a datum. -/
structure Rd (P : Program) (t : TypeId) {α : Type} (e : Bool → α → List AV) (ok : α → Prop) : Prop where
  len : ∀ x, (e false x).length = P.cellsOf t
  rd : ∀ {H : Type} {enc : TypeId × Value → H} {W : World} {fuel : Nat} {cs : List Value} {x : DataW H × List MemPlace}, DataW.trod enc P W 0 (fun _ => true) true fuel t cs = some x → (x.1.weights P t).all (· ≤ reachBytes) = true → ∃ a, ok a ∧ VRl (cx0 W) (e false a) cs
section
variable {P : Program}
theorem rd_int {t : TypeId} {k : IntKind} (ht : P.underlying t = some (.int k)) (hc : P.cellsOf t = 1) : Rd P t (fun _ x => [.v (.int k x)]) (fun x => (Lit.int k x).wf = true) where
  len _ := hc.symm
  rd := by
    intro H enc W fuel cs x h _
    obtain ⟨n, rfl, _, hw⟩ := DataW.trod_int ht h
    exact ⟨n, hw, _, [], rfl, rfl, rfl, rfl⟩
theorem rd_bool {t : TypeId} (ht : P.underlying t = some .bool) (hc : P.cellsOf t = 1) : Rd P t (fun _ x => [.v (.bool x)]) (fun _ => True) where
  len _ := hc.symm
  rd := by
    intro H enc W fuel cs x h _
    obtain ⟨n, rfl, _⟩ := DataW.trod_bool ht h
    exact ⟨n, trivial, _, [], rfl, rfl, rfl, rfl⟩
theorem Rd.map {t : TypeId} {α β : Type} {e : Bool → α → List AV} {ok : α → Prop} (h : Rd P t e ok) {e' : Bool → β → List AV} {ok' : β → Prop} (f : α → β) (g : β → α) (hg : ∀ fr b, e' fr b = e fr (g b)) (he : ∀ fr a, e' fr (f a) = e fr a) (hok : ∀ a, ok a → ok' (f a)) : Rd P t e' ok' where
  len x := by rw [hg]; exact h.len _
  rd := by
    intro H enc W fuel cs x h1 h2
    obtain ⟨a, h3, h4⟩ := h.rd h1 h2
    exact ⟨f a, hok a h3, by rw [he]; exact h4⟩
theorem list_choose {α : Type} {Q : Nat → α → Prop} : ∀ n, (∀ i, i < n → ∃ a, Q i a) → ∃ l : List α, l.length = n ∧ ∀ i a, l[i]? = some a → Q i a
  | 0, _ => ⟨[], rfl, fun i a h => by simp at h⟩
  | n + 1, h => by
    obtain ⟨l, h1, h2⟩ := list_choose n fun i hi => h i (by omega)
    obtain ⟨a, ha⟩ := h n (by omega)
    refine ⟨l ++ [a], by simp [h1], fun i b hb => ?_⟩
    by_cases hi : i < n
    · rw [List.getElem?_append_left (by omega)] at hb; exact h2 i b hb
    · have hl := (List.getElem?_eq_some_iff.1 hb).1
      simp [h1] at hl
      have : i = n := by omega
      subst this
      rw [List.getElem?_append_right (by omega)] at hb
      simp [h1] at hb
      rw [← hb]; exact ha
theorem weightsAll_mem {H : Type} {e : TypeId} : ∀ {l : List (DataW H)} {p : Nat → Bool}, (DataW.weightsAll P e l).all p = true → ∀ d ∈ l, (d.weights P e).all p = true
  | [], _, _, d, hd => by simp at hd
  | x :: l, p, h, d, hd => by
    rw [DataW.weightsAll, List.all_append, Bool.and_eq_true] at h
    rcases List.mem_cons.1 hd with e1 | e1
    · rw [e1]; exact h.1
    · exact weightsAll_mem h.2 d e1
theorem rd_slice {t te : TypeId} {α : Type} {e : Bool → α → List AV} {ok : α → Prop} {B : Nat} (ht : P.underlying t = some (.slice te)) (hc : P.cellsOf t = 1) (hb : P.bytesOf te = B) (hp : 0 < P.cellsOf te) (h : Rd P te e ok) :
    Rd P t (fun fr (xs : List α) => [.fs fr (xs.flatMap (e fr)) xs.length]) (fun xs => xs.length * B ≤ reachB ∧ ∀ x ∈ xs, ok x) where
  len _ := hc.symm
  rd := by
    intro H enc W fuel cs x h1 h2
    rcases DataW.trod_slice ht h1 with ⟨rfl, rfl⟩ | ⟨a, len, cap, elems, rest, n, _, rfl, rfl, _, hl, hm, hlen, hel, _, _⟩
    · refine ⟨[], ⟨by simp, by simp⟩, _, [], rfl, rfl, ?_, rfl⟩
      rw [VR]
      exact ⟨none, 0, rfl, Nat.le_refl _, fun h => absurd rfl h⟩
    · simp only [DataW.weights, ht, List.all_cons, List.all_append, Bool.and_eq_true, decide_eq_true_eq] at h2
      obtain ⟨hw, hwe, _⟩ := h2
      have each : ∀ i, i < len → ∃ y, ok y ∧ ∃ us, VRl (cx0 W) (e false y) us ∧ us.length = P.cellsOf te ∧ ∀ j, j < P.cellsOf te → W.cell? ((a.add (i * P.cellsOf te)).add j) = us[j]? := by
        intro i hi
        have h3 := hel i hi
        rw [List.getElem?_eq_getElem (by omega), Option.bind_eq_some_iff] at h3
        obtain ⟨us, h4, h5⟩ := h3
        obtain ⟨_, h6, h7⟩ := World.cells?_some h4
        obtain ⟨y, h8, h9⟩ := h.rd h5 (weightsAll_mem hwe _ (List.mem_map.2 ⟨elems[i], List.getElem_mem _, rfl⟩))
        exact ⟨y, h8, us, h9, h6, h7⟩
      obtain ⟨xs, hxl, hxs⟩ := list_choose len each
      refine ⟨xs, ⟨?_, fun y hy => ?_⟩, _, [], rfl, rfl, ?_, rfl⟩
      · rw [hb] at hw
        simp at hw
        have : xs.length * B ≤ (elems.length + rest.length) * B := Nat.mul_le_mul_right _ (by omega)
        unfold reachB
        unfold reachBytes at hw
        omega
      · obtain ⟨i, hi⟩ := List.getElem?_of_mem hy
        exact (hxs i y hi).1
      · rw [VR]
        refine ⟨some a, cap, by rw [hxl], by omega, fun hne => ?_⟩
        have hn0 : 0 < xs.length := by omega
        have spot : a.spot = none := by
          obtain ⟨_, us, _, h6, h7⟩ := hxs 0 _ (List.getElem?_eq_getElem hn0)
          have h8 := h7 0 hp
          rw [List.getElem?_eq_getElem (by omega)] at h8
          simp only [Nat.zero_mul, Addr.add, if_true] at h8
          unfold World.cell? at h8
          split at h8
          · split at h8
            · cases h8
            · rename_i hs; cases hsp : a.spot with
              | none => rfl
              | some _ => rw [hsp] at hs; simp at hs
          · cases h8
        obtain ⟨b, off, sp⟩ := a
        simp only at spot
        subst spot
        have addr : ∀ k j, ((Addr.mk b off none).add k).add j = ⟨b, off + (k + j), none⟩ := by
          intro k j
          unfold Addr.add
          by_cases hk : k = 0 <;> by_cases hj : j = 0 <;> simp [hk, hj]
          omega
        have key : ∀ (j : Nat) q, (xs.flatMap (e false))[j]? = some q → ∃ u, W.cell? ⟨b, off + j, none⟩ = some u ∧ u.oneCell' = true ∧ VR (cx0 W) q u := by
          intro j q hj
          have hlt : j < xs.length * P.cellsOf te := by rw [← flat_len h.len xs]; exact (List.getElem?_eq_some_iff.1 hj).1
          have hi : j / P.cellsOf te < xs.length := Nat.div_lt_of_lt_mul (by rw [Nat.mul_comm]; exact hlt)
          have hr : j % P.cellsOf te < P.cellsOf te := Nat.mod_lt _ hp
          have ej : j / P.cellsOf te * P.cellsOf te + j % P.cellsOf te = j := by rw [Nat.mul_comm]; exact Nat.div_add_mod _ _
          obtain ⟨_, us, h5, h6, h7⟩ := hxs _ _ (List.getElem?_eq_getElem hi)
          rw [← ej, flat_get h.len (List.getElem?_eq_getElem hi) _ hr] at hj
          obtain ⟨u, k1, k2, k3⟩ := (VRl_iff.1 h5).2 _ q hj
          have h8 := h7 _ hr
          rw [addr, ej, k1] at h8
          exact ⟨u, h8, k2, k3⟩
        have hb0 : b < W.heap.size := by
          have hfl : 0 < (xs.flatMap (e false)).length := by rw [flat_len h.len xs]; exact Nat.mul_pos hn0 hp
          obtain ⟨u, h5, _⟩ := key 0 _ (List.getElem?_eq_getElem hfl)
          exact lt_of_cell h5
        exact ⟨b, off, rfl, hb0, ok0 W b, VRm_iff.2 key⟩
/-- the same of fields, from a place on -/
structure RdF (P : Program) (fs : List Field) (o n : Nat) {α : Type} (e : Bool → α → List AV) (ok : α → Prop) : Prop where
  len : ∀ x, (e false x).length = n
  rd : ∀ {H : Type} {enc : TypeId × Value → H} {W : World} {fuel : Nat} {cs : List Value} {xs : List (DataW H × List MemPlace)},
    (∀ (i : Nat) (f : Field), fs[i]? = some f → DataW.trod enc P W 0 (fun _ => true) true fuel f.type ((cs.drop f.offset).take (P.cellsOf f.type)) = xs[i]?) → xs.length = fs.length →
    (DataW.weightsEach P (fs.map (·.type)) (xs.map (·.1))).all (· ≤ reachBytes) = true → ∃ a, ok a ∧ VRl (cx0 W) (e false a) ((cs.drop o).take n)
theorem RdF.nil {o : Nat} : RdF P [] o 0 (fun _ (_ : Unit) => []) (fun _ => True) where
  len _ := rfl
  rd := by
    intro H enc W fuel cs xs _ _ _
    exact ⟨(), trivial, by simp [VRl]⟩
theorem RdF.cons {f : Field} {fs : List Field} {o c n : Nat} {α β : Type} {e1 : Bool → α → List AV} {ok1 : α → Prop} {e2 : Bool → β → List AV} {ok2 : β → Prop} (ho : f.offset = o) (hc : P.cellsOf f.type = c) (h1 : Rd P f.type e1 ok1) (h2 : RdF P fs (o + c) n e2 ok2) :
    RdF P (f :: fs) o (c + n) (fun fr (x : α × β) => e1 fr x.1 ++ e2 fr x.2) (fun x => ok1 x.1 ∧ ok2 x.2) where
  len x := by rw [List.length_append, h1.len, h2.len, hc]
  rd := by
    intro H enc W fuel cs xs h3 h4 h5
    cases xs with
    | nil => simp at h4
    | cons x xs =>
      rw [List.map_cons, List.map_cons, DataW.weightsEach, List.all_append, Bool.and_eq_true] at h5
      have h6 := h3 0 f rfl
      rw [List.getElem?_cons_zero, ho, hc] at h6
      obtain ⟨a, k1, k2⟩ := h1.rd h6 h5.1
      obtain ⟨b, k3, k4⟩ := h2.rd (xs := xs) (fun i f' hf => by have := h3 (i + 1) f' (by simpa using hf); simpa using this) (by simpa using h4) h5.2
      refine ⟨(a, b), ⟨k1, k3⟩, ?_⟩
      rw [List.take_add, List.drop_drop]
      exact VRl_app.2 ⟨_, _, rfl, k2, k4⟩
theorem rd_struct {t : TypeId} {fs : Array Field} {n : Nat} {α : Type} {e : Bool → α → List AV} {ok : α → Prop} (ht : P.underlying t = some (.struct fs)) (hc : P.cellsOf t = n) (h : RdF P fs.toList 0 n e ok) : Rd P t e ok where
  len x := by rw [h.len, hc]
  rd := by
    intro H enc W fuel cs x h1 h2
    obtain ⟨xs, m, _, rfl, h3, h4, h5⟩ := DataW.trod_struct ht h1
    simp only [DataW.weights, ht] at h2
    obtain ⟨a, k1, k2⟩ := h.rd (fun i f hf => h5 i f (by simpa using hf)) (by simpa using h4) h2
    rw [List.drop_zero, List.take_of_length_le (by omega)] at k2
    exact ⟨a, k1, k2⟩
end
end Go.Proofs.Ytfoeddmbhmfjcaa
/- A State as a row's argument. -/
namespace Go.Proofs.Ytfoeddmbhmfjcaa
open Go.RowKit
set_option maxRecDepth 100000
theorem rdt_bytes : Rd Try.prog 53 (fun fr l => [fB fr l]) okBytes :=
  (rd_slice (B := 1) Try.underlying53 (by kernel_rfl) (by kernel_rfl) (by rw [show Try.prog.cellsOf 5 = 1 from by kernel_rfl]; decide) (rd_int Try.underlying5 (by kernel_rfl))).map id id (fun fr b => by simp [fB, eB_flat]) (fun fr b => by simp [fB, eB_flat]) fun a h => h
theorem rdt_bools : Rd Try.prog 29 (fun fr l => [fBools fr l]) okBools :=
  (rd_slice (B := 1) Try.underlying29 (by kernel_rfl) (by kernel_rfl) (by rw [show Try.prog.cellsOf 4 = 1 from by kernel_rfl]; decide) (rd_bool Try.underlying4 (by kernel_rfl))).map id id (fun fr b => by simp [fBools, eBools_flat]) (fun fr b => by simp [fBools, eBools_flat]) fun a h => h
theorem rdt_num : Rd Try.prog 3 (fun _ x => [.v (.int .i64 x)]) wf64 := rd_int Try.underlying3 (by kernel_rfl)
theorem rdt_blk : Rd Try.prog 55 eBlk okBlk :=
  (rd_struct Try.underlying55 (by kernel_rfl) (RdF.cons (c := 1) rfl (by kernel_rfl) rdt_num (RdF.cons (c := 1) rfl (by kernel_rfl) rdt_num (RdF.cons (c := 1) rfl (by kernel_rfl) rdt_bytes RdF.nil)))).map
    (fun x => ⟨x.1, x.2.1, x.2.2.1⟩) (fun b => (b.own, b.idx, b.data, ())) (fun fr b => rfl) (fun fr b => rfl) fun a h => ⟨h.1, h.2.1, h.2.2.1⟩
theorem rdt_blks : Rd Try.prog 30 (fun fr l => [fBlks fr l]) okBlks :=
  rd_slice (B := 40) Try.underlying30 (by kernel_rfl) (by kernel_rfl) (by rw [show Try.prog.cellsOf 55 = 3 from by kernel_rfl]; decide) rdt_blk
theorem rdt_sg : Rd Try.prog 69 eSg okSg :=
  (rd_struct Try.underlying69 (by kernel_rfl) (RdF.cons (c := 1) rfl (by kernel_rfl) rdt_num (RdF.cons (c := 1) rfl (by kernel_rfl) rdt_blks RdF.nil))).map
    (fun x => ⟨x.1, x.2.1⟩) (fun b => (b.seq, b.blocks, ())) (fun fr b => rfl) (fun fr b => rfl) fun a h => ⟨h.1, h.2.1⟩
theorem rdt_sgs : Rd Try.prog 28 (fun fr l => [fSegs fr l]) okSgs :=
  rd_slice (B := 32) Try.underlying28 (by kernel_rfl) (by kernel_rfl) (by rw [show Try.prog.cellsOf 69 = 2 from by kernel_rfl]; decide) rdt_sg
theorem rdt_st : Rd Try.prog 32 (fun fr s => [fSegs fr s.segs, fBools fr s.held, fBlks fr s.opn, .v (.int .i64 s.next)]) okSt :=
  (rd_struct Try.underlying32 (by kernel_rfl) (RdF.cons (c := 1) rfl (by kernel_rfl) rdt_sgs (RdF.cons (c := 1) rfl (by kernel_rfl) rdt_bools (RdF.cons (c := 1) rfl (by kernel_rfl) rdt_blks (RdF.cons (c := 1) rfl (by kernel_rfl) rdt_num RdF.nil))))).map
    (fun x => ⟨x.1, x.2.1, x.2.2.1, x.2.2.2.1⟩) (fun s => (s.segs, s.held, s.opn, s.next, ())) (fun fr b => rfl) (fun fr b => rfl) fun a h => ⟨h.1, h.2.1, h.2.2.1, h.2.2.2.1⟩
theorem laid : laidOutB Try.prog = true := by kernel_rfl
/-- a State that a row's argument is -/
theorem open_st {H : Type} {enc : TypeId × Value → H} {W : World} {base : Nat} {v : Value} {d : DataW H} {ps : List MemPlace} (hv : Value.okWide Try.prog W .any base 32 v) (h : DataW.Trod enc Try.prog W 0 (fun _ => true) true 32 v d ps)
    (hw : (d.weights Try.prog 32).all (· ≤ reachBytes) = true) : ∃ s, okSt s ∧ VR (cx0 W) (aSt false s) v := by
  simp only [Value.okWide, Try.underlying32] at hv
  obtain ⟨cs, rfl, _, _⟩ := hv
  obtain ⟨fuel, h⟩ := h
  obtain ⟨s, h1, h2⟩ := rdt_st.rd h hw
  refine ⟨s, h1, ?_⟩
  rw [aSt, VR]
  exact ⟨_, rfl, h2⟩
theorem open_blk {H : Type} {enc : TypeId × Value → H} {W : World} {base : Nat} {v : Value} {d : DataW H} {ps : List MemPlace} (hv : Value.okWide Try.prog W .any base 55 v) (h : DataW.Trod enc Try.prog W 0 (fun _ => true) true 55 v d ps)
    (hw : (d.weights Try.prog 55).all (· ≤ reachBytes) = true) : ∃ s, okBlk s ∧ VR (cx0 W) (aBlk false s) v := by
  simp only [Value.okWide, Try.underlying55] at hv
  obtain ⟨cs, rfl, _, _⟩ := hv
  obtain ⟨fuel, h⟩ := h
  obtain ⟨s, h1, h2⟩ := rdt_blk.rd h hw
  refine ⟨s, h1, ?_⟩
  rw [aBlk, VR]
  exact ⟨_, rfl, h2⟩
end Go.Proofs.Ytfoeddmbhmfjcaa
