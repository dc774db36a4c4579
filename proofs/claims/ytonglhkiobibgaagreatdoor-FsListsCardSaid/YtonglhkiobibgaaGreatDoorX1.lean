/- Merged texts: BS, AA, AB, AC, AD, AE, AF, AG, AH, AK, AN, QZ, Q0. -/
import Derived.Test.YtonglhkiobibgaaGreatDoorX0
import Derived.RangeFuncFrom
import Derived.OrdersIn
import Derived.CallsIn
import Derived.ControlIn
import Derived.Deep.LoopGhost
import Derived.Sort.LoopGhostIn
import Derived.RangeFuncLeaves
import Derived.RangeFuncRecord
set_option linter.unusedSimpArgs false
set_option linter.unusedVariables false
namespace Go.Proofs.YtonglhkiobibgaaGreatDoor
open Go.RowKit

/-- no map is held -/
def NoM (σ : Heap) : Prop := ∀ id y e cells, σ id = some (.row y e cells) → e ≠ MAPE
/-- another world, in which new blocks lie, and blocks from B on that hold no cells may have changed -/
structure Side (B : Nat) (c : Cx) (W : World) : Prop where
  os : W.os = c.w.os
  tape : W.tape = c.w.tape
  output : W.output = c.w.output
  size : c.w.heap.size ≤ W.heap.size
  same : ∀ k, k < c.w.heap.size → W.heap[k]? = c.w.heap[k]? ∨ (B ≤ k ∧ ∃ o : Obj, c.w.heap[k]? = some o ∧ o.isCells = false ∧ (¬ NoM c.σ → ∀ es cl, o ≠ .map es cl))
theorem Side.refl (B : Nat) (c : Cx) : Side B c c.w := ⟨rfl, rfl, rfl, Nat.le_refl _, fun _ _ => .inl rfl⟩
theorem Side.cells {B : Nat} {c : Cx} {W : World} (h : Side B c W) {b : Nat} {cs : Array Value} {e : TypeId} {f : Nat × Nat} (k : c.w.heap[b]? = some (.cells cs e f)) : W.heap[b]? = some (.cells cs e f) := by
  rcases h.same b (Array.getElem?_eq_some_iff.1 k).1 with h1 | ⟨_, o, h1, h2, _⟩
  · rw [h1, k]
  · rw [k] at h1; cases h1; cases h2
theorem Side.cell {B : Nat} {c : Cx} {W : World} (h : Side B c W) {a : Addr} {u : Value} (k : c.w.cell? a = some u) : W.cell? a = some u := by
  have hc : ∃ cs e f, c.w.heap[a.block]? = some (.cells cs e f) := by
    unfold World.cell? at k
    split at k
    · rename_i h9; exact ⟨_, _, _, h9⟩
    · cases k
  obtain ⟨cs, e, f, hc⟩ := hc
  exact (World.cell?_of_block (w := c.w) ((h.cells hc).trans hc.symm)).trans k
theorem Side.grown {B : Nat} {c : Cx} {W : World} {row : Option Nat} (h : c.w.grownBy W row) (hr : ∀ r, row = some r → B ≤ r ∧ ∃ o : Obj, c.w.heap[r]? = some o ∧ o.isCells = false) (hm : NoM c.σ) : Side B c W :=
  ⟨h.os, h.tape, h.output, h.size, fun k hk => by
    by_cases e : some k = row
    · obtain ⟨h1, o, h2, h3⟩ := hr k e.symm
      exact .inr ⟨h1, o, h2, h3, fun h => absurd hm h⟩
    · exact .inl (h.block k hk e)⟩
theorem Side.wok {B : Nat} {c : Cx} {W : World} (h : Side B c W) {k : WK} {b n : Nat} (hk : c.wok k b n) : (c.at W).wok k b n := by
  obtain ⟨h1, h2, h3, h4, sz, ⟨cs, e, h5, h6⟩, h7⟩ := hk
  exact ⟨h1, h2, h3, h4, sz, ⟨cs, e, h.cells h5, h6⟩, h7⟩
mutual
theorem VR.side {B : Nat} {c : Cx} {W : World} (g : Side B c W) : ∀ {a : AV} {u : Value}, VR c a u → VR (c.at W) a u
  | .any, u, _ => trivial
  | .v x, u, h => h
  | .fs fr cs m, u, h => by
    obtain ⟨A, k, rfl, hk, hc⟩ := h
    refine ⟨A, k, rfl, hk, fun hne => ?_⟩
    obtain ⟨b, off, rfl, hlt, ho, hm⟩ := hc hne
    exact ⟨b, off, rfl, Nat.lt_of_lt_of_le hlt g.size, ho, VRm.side g hm⟩
  | .fp fr cs m, u, h => by
    obtain ⟨b, off, rfl, hlt, ho, hm⟩ := h
    exact ⟨b, off, rfl, Nat.lt_of_lt_of_le hlt g.size, ho, VRm.side g hm⟩
  | .os id off m sz, u, h => by
    obtain ⟨A, k, rfl, hk, hc⟩ := h
    refine ⟨A, k, rfl, hk, ?_⟩
    rcases hc with ⟨h1, h2⟩ | ⟨b, h1, rfl, cs, e, f, h2, h3⟩
    · exact .inl ⟨h1, h2⟩
    · exact .inr ⟨b, h1, rfl, cs, e, f, g.cells h2, h3⟩
  | .op id off, u, h => by
    obtain ⟨b, h1, rfl, cs, e, f, h2⟩ := h
    exact ⟨b, h1, rfl, cs, e, f, g.cells h2⟩
  | .mp id, u, h => h
  | .agg l, u, h => by
    obtain ⟨us, rfl, h⟩ := h
    exact ⟨us, rfl, VRl.side g h⟩
  | .tup l, u, h => by
    obtain ⟨us, rfl, h⟩ := h
    exact ⟨us, rfl, VRt.side g h⟩
  | .fn f l, u, h => by
    obtain ⟨us, rfl, h⟩ := h
    exact ⟨us, rfl, VRt.side g h⟩
  | .ws k m, u, h => by
    obtain ⟨A, q, rfl, hk, hc⟩ := h
    refine ⟨A, q, rfl, hk, fun hne => ?_⟩
    obtain ⟨b, off, rfl, hw⟩ := hc hne
    exact ⟨b, off, rfl, g.wok hw⟩
  | .wp k, u, h => by
    obtain ⟨b, off, rfl, hw⟩ := h
    exact ⟨b, off, rfl, g.wok hw⟩
  | .wv k, u, h => h
  | .us fr e cs m, u, h => by
    obtain ⟨A, k, rfl, hk, hc⟩ := h
    refine ⟨A, k, rfl, hk, fun hne => ?_⟩
    obtain ⟨b, rfl, ho, ⟨vs, hv⟩, hm⟩ := hc hne
    exact ⟨b, rfl, ho, ⟨vs, g.cells hv⟩, VRm.side g hm⟩
  | .ifc t a, u, h => by
    obtain ⟨v, rfl, h⟩ := h
    exact ⟨v, rfl, VR.side g h⟩
theorem VRm.side {B : Nat} {c : Cx} {W : World} (g : Side B c W) {b : Nat} : ∀ {cs : List AV} {off : Nat}, VRm c b off cs → VRm (c.at W) b off cs
  | [], _, _ => trivial
  | a :: r, off, h => by
    rw [VRm] at h ⊢
    obtain ⟨⟨u, h1, h2, h3⟩, h4⟩ := h
    exact ⟨⟨u, g.cell h1, h2, VR.side g h3⟩, VRm.side g h4⟩
theorem VRl.side {B : Nat} {c : Cx} {W : World} (g : Side B c W) : ∀ {cs : List AV} {us : List Value}, VRl c cs us → VRl (c.at W) cs us
  | [], _, h => h
  | a :: r, us, h => by
    rw [VRl] at h ⊢
    obtain ⟨u, us', rfl, h1, h2, h3⟩ := h
    exact ⟨u, us', rfl, h1, VR.side g h2, VRl.side g h3⟩
theorem VRt.side {B : Nat} {c : Cx} {W : World} (g : Side B c W) : ∀ {cs : List AV} {us : List Value}, VRt c cs us → VRt (c.at W) cs us
  | [], _, h => h
  | a :: r, us, h => by
    rw [VRt] at h ⊢
    obtain ⟨u, us', rfl, h2, h3⟩ := h
    exact ⟨u, us', rfl, VR.side g h2, VRt.side g h3⟩
end
theorem HR.side {B : Nat} {c : Cx} {W : World} (h : HR c) (g : Side B c W) : HR (c.at W) := by
  refine ⟨fun id y e cells hs => ?_, h.inj, Nat.le_trans h.base g.size, fun b hb => Nat.lt_of_lt_of_le (h.xlt b hb) g.size, fun b v hb => ⟨g.cell (h.gl b v hb).1, (h.gl b v hb).2⟩⟩
  rcases h.row id y e cells hs with h1 | ⟨b, cs, h1, h2, h3, h4, h5⟩
  · exact .inl h1
  · have h2' : Blk W b e cs cells.length := by
      rcases h2 with ⟨q1, q2⟩ | ⟨q1, q2⟩
      · exact .inl ⟨q1, g.cells q2⟩
      · refine Blk.of (.inr ⟨q1, q2⟩) ?_
        obtain ⟨es, cl, q3, _⟩ := q2
        rcases g.same b (Array.getElem?_eq_some_iff.1 q3).1 with q | ⟨_, o, q4, _, q5⟩
        · exact q
        · rw [q3] at q4; cases q4
          exact absurd rfl (q5 (fun h => h id y e cells hs q1) es cl)
    refine .inr ⟨b, cs, h1, h2', h3, h4, fun j a hj => ?_⟩
    obtain ⟨u, k1, k2, k3⟩ := h5 j a hj
    exact ⟨u, k1, k2, k3.side g⟩
theorem Grow.side {B : Nat} {c d : Cx} {W : World} (h : Grow c d) (g : Side B d W) (hB : c.w.heap.size ≤ B) : Grow c (d.at W) := by
  refine ⟨h.X, h.B, g.output.trans h.out, g.os.trans h.osE, g.tape.trans h.tape, Nat.le_trans h.size g.size, fun b hb ht hy => ?_, h.held, fun b cs e f hc => ?_, h.Y, fun b k sz h1 h2 h3 h4 h5 => ?_⟩
  · rcases g.same b (Nat.lt_of_lt_of_le hb h.size) with h1 | ⟨h1, _⟩
    · exact h1.trans (h.stay b hb ht hy)
    · omega
  · obtain ⟨cs', f', h1, h2⟩ := h.shape b cs e f hc
    exact ⟨cs', f', g.cells h1, h2⟩
  · obtain ⟨cs, e, h6, h7⟩ := h.wild b k sz h1 h2 h3 h4 h5
    exact ⟨cs, e, g.cells h6, h7⟩

/-- the names that satisfy p are there, each at what it says -/
def Al0 (p : Nat → Prop) (c d : Cx) : Prop := ∀ id x, p id → c.φ id = some x → d.φ id = some x
mutual
def AlN (p : Nat → Prop) : AV → Prop
  | .any | .v _ | .ws _ _ | .wp _ | .wv _ => True
  | .fs _ cs _ | .fp _ cs _ | .agg cs | .tup cs | .fn _ cs | .us _ _ cs _ => AlNL p cs
  | .ifc _ a => AlN p a
  | .os id _ _ _ | .op id _ | .mp id => p id
def AlNL (p : Nat → Prop) : List AV → Prop
  | [] => True
  | a :: r => AlN p a ∧ AlNL p r
end
mutual
theorem VR.monoP {p : Nat → Prop} {c d : Cx} (g : Grow c d) (n : Al0 p c d) : ∀ {a : AV} {u : Value}, AlN p a → VR c a u → VR d a u
  | .any, u, _, _ => trivial
  | .v x, u, _, h => h
  | .fs fr cs m, u, q, h => by
    obtain ⟨A, k, rfl, hk, hc⟩ := h
    refine ⟨A, k, rfl, hk, fun hne => ?_⟩
    obtain ⟨b, off, rfl, hlt, ho, hm⟩ := hc hne
    exact ⟨b, off, rfl, Nat.lt_of_lt_of_le hlt g.size, g.okk ho hlt, VRm.monoP g n q ho.2.1 ho.2.2 hm⟩
  | .fp fr cs m, u, q, h => by
    obtain ⟨b, off, rfl, hlt, ho, hm⟩ := h
    exact ⟨b, off, rfl, Nat.lt_of_lt_of_le hlt g.size, g.okk ho hlt, VRm.monoP g n q ho.2.1 ho.2.2 hm⟩
  | .os id off m sz, u, q, h => by
    obtain ⟨A, k, rfl, hk, hc⟩ := h
    refine ⟨A, k, rfl, hk, ?_⟩
    rcases hc with ⟨h1, h2⟩ | ⟨b, h1, rfl, cs, e, f, h2, h3⟩
    · obtain ⟨x, hx⟩ := Option.ne_none_iff_exists'.1 h1
      exact .inl ⟨by rw [n _ _ q hx]; simp, h2⟩
    · obtain ⟨cs', f', h4, h5⟩ := g.shape b cs e f h2
      exact .inr ⟨b, n _ _ q h1, rfl, cs', e, f', h4, by omega⟩
  | .op id off, u, q, h => by
    obtain ⟨b, h1, rfl, cs, e, f, h2⟩ := h
    obtain ⟨cs', f', h4, _⟩ := g.shape b cs e f h2
    exact ⟨b, n _ _ q h1, rfl, cs', e, f', h4⟩
  | .mp id, u, q, h => by
    obtain ⟨b, h1, rfl⟩ := h
    exact ⟨b, n _ _ q h1, rfl⟩
  | .agg l, u, q, h => by
    obtain ⟨us, rfl, h⟩ := h
    exact ⟨us, rfl, VRl.monoP g n q h⟩
  | .tup l, u, q, h => by
    obtain ⟨us, rfl, h⟩ := h
    exact ⟨us, rfl, VRt.monoP g n q h⟩
  | .fn f l, u, q, h => by
    obtain ⟨us, rfl, h⟩ := h
    exact ⟨us, rfl, VRt.monoP g n q h⟩
  | .ws k m, u, q, h => by
    obtain ⟨A, r, rfl, hk, hc⟩ := h
    refine ⟨A, r, rfl, hk, fun hne => ?_⟩
    obtain ⟨b, off, rfl, hw⟩ := hc hne
    exact ⟨b, off, rfl, g.wokk hw⟩
  | .wp k, u, q, h => by
    obtain ⟨b, off, rfl, hw⟩ := h
    exact ⟨b, off, rfl, g.wokk hw⟩
  | .wv k, u, _, h => h
  | .us fr e cs m, u, q, h => by
    obtain ⟨A, k, rfl, hk, hc⟩ := h
    refine ⟨A, k, rfl, hk, fun hne => ?_⟩
    obtain ⟨b, rfl, ho, ⟨vs, hv⟩, hm⟩ := hc hne
    have hlt := (Array.getElem?_eq_some_iff.1 hv).1
    exact ⟨b, rfl, g.okk ho hlt, ⟨vs, (g.stay b hlt ho.2.1 (fun h => absurd h ho.2.2)).trans hv⟩, VRm.monoP g n q ho.2.1 ho.2.2 hm⟩
  | .ifc t a, u, q, h => by
    obtain ⟨v, rfl, h⟩ := h
    exact ⟨v, rfl, VR.monoP g n q h⟩
theorem VRm.monoP {p : Nat → Prop} {c d : Cx} (g : Grow c d) (n : Al0 p c d) {b : Nat} : ∀ {cs : List AV} {off : Nat}, AlNL p cs → ¬ c.T b → ¬ c.X b → VRm c b off cs → VRm d b off cs
  | [], _, _, _, _, _ => trivial
  | a :: r, off, q, hb, hx, h => by
    rw [VRm] at h ⊢
    obtain ⟨⟨u, h1, h2, h3⟩, h4⟩ := h
    exact ⟨⟨u, (World.cell?_of_block (w := c.w) (g.stay b (cell_lt h1) hb (fun h => absurd h hx))).trans h1, h2, VR.monoP g n q.1 h3⟩, VRm.monoP g n q.2 hb hx h4⟩
theorem VRl.monoP {p : Nat → Prop} {c d : Cx} (g : Grow c d) (n : Al0 p c d) : ∀ {cs : List AV} {us : List Value}, AlNL p cs → VRl c cs us → VRl d cs us
  | [], _, _, h => h
  | a :: r, us, q, h => by
    rw [VRl] at h ⊢
    obtain ⟨u, us', rfl, h1, h2, h3⟩ := h
    exact ⟨u, us', rfl, h1, VR.monoP g n q.1 h2, VRl.monoP g n q.2 h3⟩
theorem VRt.monoP {p : Nat → Prop} {c d : Cx} (g : Grow c d) (n : Al0 p c d) : ∀ {cs : List AV} {us : List Value}, AlNL p cs → VRt c cs us → VRt d cs us
  | [], _, _, h => h
  | a :: r, us, q, h => by
    rw [VRt] at h ⊢
    obtain ⟨u, us', rfl, h2, h3⟩ := h
    exact ⟨u, us', rfl, VR.monoP g n q.1 h2, VRt.monoP g n q.2 h3⟩
end

/-- the same moment, other bounds of what may become of another's -/
def Cx.reY (c : Cx) (Y : Nat → WK) : Cx := { c with Y := Y }
mutual
theorem VR.reY {Y : Nat → WK} {c : Cx} (hk : ∀ k b n, c.wok k b n → (c.reY Y).wok k b n) : ∀ {a : AV} {u : Value}, VR c a u → VR (c.reY Y) a u
  | .any, u, _ => trivial
  | .v x, u, k => k
  | .wv q, u, k => k
  | .ifc t a, u, k => by obtain ⟨v, rfl, k⟩ := k; exact ⟨v, rfl, VR.reY hk k⟩
  | .fs fr cs n, u, k => by
    obtain ⟨A, k', rfl, hk', hm⟩ := k
    refine ⟨A, k', rfl, hk', fun h0 => ?_⟩
    obtain ⟨b, off, rfl, e1, e2, e3⟩ := hm h0
    exact ⟨b, off, rfl, e1, e2, VRm.reY hk e3⟩
  | .fp fr cs n, u, k => by
    obtain ⟨b, off, rfl, e1, e2, e3⟩ := k
    exact ⟨b, off, rfl, e1, e2, VRm.reY hk e3⟩
  | .us fr e cs n, u, k => by
    obtain ⟨A, k', rfl, hk', hm⟩ := k
    refine ⟨A, k', rfl, hk', fun h0 => ?_⟩
    obtain ⟨b, rfl, e2, e1, e3⟩ := hm h0
    exact ⟨b, rfl, e2, e1, VRm.reY hk e3⟩
  | .os _ _ _ _, u, k => k
  | .op _ _, u, k => k
  | .mp _, u, k => k
  | .ws q n, u, k => by
    obtain ⟨A, r, rfl, h1, h2⟩ := k
    refine ⟨A, r, rfl, h1, fun h0 => ?_⟩
    obtain ⟨b, off, rfl, e1⟩ := h2 h0
    exact ⟨b, off, rfl, hk _ _ _ e1⟩
  | .wp q, u, k => by
    obtain ⟨b, off, rfl, e1⟩ := k
    exact ⟨b, off, rfl, hk _ _ _ e1⟩
  | .agg l, u, k => by obtain ⟨us, rfl, k⟩ := k; exact ⟨us, rfl, VRl.reY hk k⟩
  | .tup l, u, k => by obtain ⟨us, rfl, k⟩ := k; exact ⟨us, rfl, VRt.reY hk k⟩
  | .fn f l, u, k => by obtain ⟨us, rfl, k⟩ := k; exact ⟨us, rfl, VRt.reY hk k⟩
theorem VRm.reY {Y : Nat → WK} {c : Cx} (hk : ∀ k b n, c.wok k b n → (c.reY Y).wok k b n) {b : Nat} : ∀ {cs : List AV} {off : Nat}, VRm c b off cs → VRm (c.reY Y) b off cs
  | [], _, _ => trivial
  | a :: r, off, k => by
    rw [VRm] at k ⊢
    obtain ⟨⟨u, h1, h2, h3⟩, h4⟩ := k
    exact ⟨⟨u, h1, h2, VR.reY hk h3⟩, VRm.reY hk h4⟩
theorem VRl.reY {Y : Nat → WK} {c : Cx} (hk : ∀ k b n, c.wok k b n → (c.reY Y).wok k b n) : ∀ {cs : List AV} {us : List Value}, VRl c cs us → VRl (c.reY Y) cs us
  | [], _, k => k
  | a :: r, us, k => by
    rw [VRl] at k ⊢
    obtain ⟨u, us', rfl, h1, h2, h3⟩ := k
    exact ⟨u, us', rfl, h1, VR.reY hk h2, VRl.reY hk h3⟩
theorem VRt.reY {Y : Nat → WK} {c : Cx} (hk : ∀ k b n, c.wok k b n → (c.reY Y).wok k b n) : ∀ {cs : List AV} {us : List Value}, VRt c cs us → VRt (c.reY Y) cs us
  | [], _, k => k
  | a :: r, us, k => by
    rw [VRt] at k ⊢
    obtain ⟨u, us', rfl, h2, h3⟩ := k
    exact ⟨u, us', rfl, VR.reY hk h2, VRt.reY hk h3⟩
end
theorem HR.reY {Y : Nat → WK} {c : Cx} (h : HR c) (hgY : ∀ b v, GLOB b = some v → c.X b → Y b = .no) (hk : ∀ k b n, c.wok k b n → (c.reY Y).wok k b n) : HR (c.reY Y) := by
  refine ⟨fun id y e cells hs => ?_, h.inj, h.base, h.xlt, fun b v hb => ⟨(h.gl b v hb).1, (h.gl b v hb).2.1, hgY b v hb⟩⟩
  rcases h.row id y e cells hs with h1 | ⟨b, cs, h1, h2, h3, h4, h5⟩
  · exact .inl h1
  · refine .inr ⟨b, cs, h1, h2, h3, h4, fun j x hj => ?_⟩
    obtain ⟨u, k1, k2, k3⟩ := h5 j x hj
    exact ⟨u, k1, k2, k3.reY hk⟩
end Go.Proofs.YtonglhkiobibgaaGreatDoor
namespace Go.Proofs.YtonglhkiobibgaaGreatDoor
open Go.RowKit
variable {P : Program} {ops : Array Oper} {N nx : Nat}

structure ASt where
  env : Nat → AV
  σ : Heap
  nx : Nat
def evA (env : Nat → AV) : Operand → AV
  | .tmp t => env t
  | .const v => .v v
  | .global _ => .any
  | .func f => .fn f []
def putE (env : Nat → AV) (d : Option Nat) (x : AV) : Nat → AV :=
  match d with
  | some d => fun t => if t = d then x else env t
  | none => env
def enters (P : Program) (f : FuncId) : Bool :=
  match P.funcs[f]? with
  | some fn => !(fn.name == "runtime.NumGoroutine") && fn.body.isSome
  | none => false
/-- A call of function f with such arguments does what am says. -/
def ASound (P : Program) (f : FuncId) (args : List AV) (nb : Nat) (am : AM) : Prop :=
  enters P f = true ∧ ∀ (c : Cx) (us : List Value) r R W, am.run c.σ = some (r, R, W) → HR c → (∀ id, nb ≤ id → c.φ id = none ∨ nb + 100000 ≤ id) → VRt c args us →
    Calls P f us.toArray c.w fun e w' => ∃ v d, e = .returned v ∧ d.w = w' ∧ VR d r v ∧ Then c nb W d

def DoesA (P : Program) (env : Nat → AV) (nb : Nat) (m : AM) (ao : AO) : Prop :=
  match ao with
  | .call f args => ASound P f (args.map (evA env)) nb m
  | .callv g args => ∃ f caps, evA env g = .fn f caps ∧ ASound P f (args.map (evA env) ++ caps) nb m
  | ao => m = eff (evA env) nb ao
def Does (P : Program) (o : Oper) (env : Nat → AV) (nb : Nat) (m : AM) : Prop := ∃ ao, compOp P o = some ao ∧ DoesA P env nb m ao

/-- One operation of a trace: what it did, or that its guard let it not. -/
structure TE where
  i : Nat
  o : Oper
  am : Option AM
  r : AV
  R : List Nat
  W : List (Nat × Option AObj)
def GuardIs (ops : Array Oper) (o : Oper) (env : Nat → AV) (yes : Bool) : Prop :=
  ∃ j want o' s, o.guard = some (j, want) ∧ ops[j]? = some o' ∧ o'.dst = some s ∧ ((∃ b, env s = .v (.bool b) ∧ (b == want) = yes) ∨ (yes = false ∧ ∃ t, env s = .v (.tuple t)))
def TOk (P : Program) (ops : Array Oper) (N nx : Nat) (e : TE) (st : ASt) : Prop :=
  ops[e.i]? = some e.o ∧ (∀ d, e.o.dst = some d → d < N) ∧
  match e.am with
  | none => e.r = .v undef ∧ e.R = [] ∧ e.W = [] ∧ GuardIs ops e.o st.env false
  | some m => (e.o.guard = none ∨ GuardIs ops e.o st.env true) ∧ m.run st.σ = some (e.r, e.R, e.W) ∧ Does P e.o st.env (nx + 100000 * e.i) m
def TE.next (e : TE) (st : ASt) : ASt := ⟨putE st.env e.o.dst e.r, app st.σ e.W, st.nx⟩

/-- the slots hold what is known of them; memory what is held; names from nx on stand for what the region's done operations made -/
structure RelR (N nx : Nat) (done : Nat → Prop) (c : Cx) (st : ASt) (a : Act) : Prop where
  size : a.tmps.size = N
  env : ∀ t, VR c (st.env t) (a.tmps.getD t undef)
  hr : HR c
  σ : c.σ = st.σ
  fresh : ∀ id, nx ≤ id → c.φ id ≠ none → ∃ j, done j ∧ nx + 100000 * j ≤ id ∧ id < nx + 100000 * j + 100000

/-- Later, and the names below nx as they were. -/
structure Later (nx : Nat) (c d : Cx) : Prop where
  grow : Grow c d
  names : Names c d
  low : ∀ id, id < nx → d.φ id = c.φ id
theorem Later.refl (c : Cx) : Later nx c c := ⟨Grow.refl c, Names.refl c, fun _ _ => rfl⟩
theorem Later.trans {a b c : Cx} (h : Later nx a b) (k : Later nx b c) : Later nx a c := ⟨h.grow.trans k.grow, h.names.trans k.names, fun id hid => (k.low id hid).trans (h.low id hid)⟩
theorem Then.later {c d : Cx} {nb : Nat} {W : List (Nat × Option AObj)} (h : Then c nb W d) (hn : nx ≤ nb) : Later nx c d := by
  refine ⟨h.grow, h.names, fun id hid => ?_⟩
  cases hc : c.φ id with
  | some x => exact h.names id x hc
  | none =>
    cases hd : d.φ id with
    | none => rfl
    | some y =>
      rcases h.fresh id (by rw [hd]; simp) with h1 | h1
      · exact absurd hc h1
      · omega

theorem RelR.eval {done : Nat → Prop} {c : Cx} {st : ASt} {a : Act} (h : RelR N nx done c st a) (x : Operand) : VR c (evA st.env x) (a.eval x) := by
  cases x with
  | tmp t => exact h.env t
  | const v => exact rfl
  | global g => trivial
  | func f => exact ⟨[], rfl, rfl⟩
theorem RelR.put {done done' : Nat → Prop} {c d : Cx} {st : ASt} {a : Act} (h : RelR N nx done c st a) {i : Nat} {W : List (Nat × Option AObj)} (T : Then c (nx + 100000 * i) W d) {r : AV} {v : Value} (hv : VR d r v) {o : Option Nat} (ho : ∀ t, o = some t → t < N)
    (hd : ∀ j, done j ∨ j = i → done' j) : RelR N nx done' d ⟨putE st.env o r, app st.σ W, st.nx⟩ (a.put o v) := by
  refine ⟨by cases o <;> simp [Act.put, h.size], fun t => ?_, T.hr, by rw [T.σ, h.σ], fun id hid hne => ?_⟩
  · cases o with
    | none => exact (h.env t).mono T.grow T.names
    | some k =>
      have hk := ho k rfl
      simp only [putE, Act.put]
      by_cases e : t = k
      · subst e
        rw [if_pos rfl]
        have : (a.tmps.setIfInBounds t v).getD t undef = v := by simp [h.size, hk]
        rw [this]; exact hv
      · rw [if_neg e]
        have : (a.tmps.setIfInBounds k v).getD t undef = a.tmps.getD t undef := by simp [Array.getElem?_setIfInBounds_ne (Ne.symm e)]
        rw [this]; exact (h.env t).mono T.grow T.names
  · rcases T.fresh id hne with h1 | h1
    · obtain ⟨j, h2, h3⟩ := h.fresh id hid h1
      exact ⟨j, hd j (.inl h2), h3⟩
    · exact ⟨i, hd i (.inr rfl), h1⟩
theorem RelR.skip {done done' : Nat → Prop} {c : Cx} {st : ASt} {a : Act} (h : RelR N nx done c st a) {o : Option Nat} (ho : ∀ t, o = some t → t < N) (hd : ∀ j, done j → done' j) : RelR N nx done' c ⟨putE st.env o (.v undef), app st.σ [], st.nx⟩ (a.put o undef) := by
  refine ⟨by cases o <;> simp [Act.put, h.size], fun t => ?_, h.hr, h.σ, fun id hid hne => ?_⟩
  · cases o with
    | none => exact h.env t
    | some k =>
      have hk := ho k rfl
      simp only [putE, Act.put]
      by_cases e : t = k
      · subst e
        rw [if_pos rfl]
        have : (a.tmps.setIfInBounds t undef).getD t undef = undef := by simp [h.size, hk]
        rw [this]; exact rfl
      · rw [if_neg e]
        have : (a.tmps.setIfInBounds k undef).getD t undef = a.tmps.getD t undef := by simp [Array.getElem?_setIfInBounds_ne (Ne.symm e)]
        rw [this]; exact h.env t
  · obtain ⟨j, h2, h3⟩ := h.fresh id hid hne
    exact ⟨j, hd j h2, h3⟩

theorem guard_wanted {done : Nat → Prop} {c : Cx} {st : ASt} {a : Act} (h : RelR N nx done c st a) {o : Oper} {yes : Bool} (hg : GuardIs ops o st.env yes) : Region.wanted o (yielded ops a.tmps) = yes := by
  obtain ⟨j, want, o', s, h1, h2, h3, h45⟩ := hg
  have := h.env s
  rcases h45 with ⟨b, h4, h5⟩ | ⟨rfl, tt, h4⟩
  case inr =>
    rw [h4] at this
    have e : a.tmps.getD s undef = .tuple tt := this
    unfold Region.wanted
    rw [h1]
    simp only [yielded, h2, Option.bind_some, h3]
    rw [Array.getD_eq_getD_getElem?] at e
    cases hq : a.tmps[s]? with
    | none => rfl
    | some q => rw [hq] at e; simp at e; subst e; rfl
  rw [h4] at this
  have e : a.tmps.getD s undef = .bool b := this
  have e2 : a.tmps[s]? = some (.bool b) := by
    rw [Array.getD_eq_getD_getElem?] at e
    cases hq : a.tmps[s]? with
    | none => rw [hq] at e; simp [undef] at e
    | some q => rw [hq] at e; simp at e; rw [e]
  unfold Region.wanted
  rw [h1]
  simp only [yielded, h2, Option.bind_some, h3, e2]
  rw [← h5]
  cases b <;> cases want <;> rfl
theorem run_callFunc {f : FuncId} (h : enters P f = true) (args : Array Value) (w : World) : (callFunc f args).run P w = .ok (.enter f args) w := by
  unfold enters at h
  split at h
  · rename_i fn hf
    simp at h
    obtain ⟨h1, h2⟩ := h
    have h3 : fn.body.isNone = false := by cases hb : fn.body <;> simp_all
    simp [callFunc, hf, h1, h3]
    intro h9
    rw [h9] at h2
    cases h2
  · cases h
theorem put_defers (a : Act) (d : Option Nat) (v : Value) : (a.put d v).defers = a.defers := by cases d <;> rfl
/-- in whatever round -/
def FR (ro : Option Nat) : Fence := { fn := fun _ => True, depth := none, alive := false, round := ro }
theorem callsIn_FR {ro : Option Nat} {n : Nat} {f : FuncId} {args : Array Value} {w : World} {R : Ending → World → Prop} (h : Calls P f args w R) : CallsIn (FR ro) n P f args w R := by
  have h2 : CallsIn Fence.wide n P f args w R := callsIn_wide.2 h
  exact h2
theorem no_defer {o : Oper} {ao : AO} (h : compOp P o = some ao) : ∀ c, o.op ≠ .defer c := by
  intro c e
  unfold compOp at h
  rw [e] at h
  cases h
theorem calls_wp {ro : Option Nat} {rm : Nat} {o : Oper} {ao : AO} (hco : compOp P o = some ao) {a : Act} {c : Cx} {f : FuncId} {us : List Value} {K : Act → World → Prop} {Q : Exit → Act → World → Prop} (hrun : (execOp a.eval o).run P c.w = .ok (.enter f us.toArray) c.w) {nb : Nat} {r : AV} {W : List (Nat × Option AObj)}
    (h : Calls P f us.toArray c.w fun e w' => ∃ v d, e = .returned v ∧ d.w = w' ∧ VR d r v ∧ Then c nb W d) (hK : ∀ v d, VR d r v → Then c nb W d → K (a.put o.dst v) d.w) : o.wpIn (FR ro) rm P a c.w K Q := by
  refine ⟨fun _ _ => trivial, ?_⟩
  rw [Oper.semAt_eq _ _ _ (no_defer hco), hrun, Oper.uponIn_enter]
  refine ⟨fun h => by simp [FR] at h, callsIn_FR (h.mono ?_)⟩
  rintro e w' ⟨v, d, rfl, rfl, h1, h2⟩
  exact hK v d h1 h2
theorem comp_call {o : Oper} {f : Nat} {args : List Operand} (h : compOp P o = some (.call f args)) : ∃ cl, o.op = .call cl ∧ cl.callee = .value (.func f) ∧ cl.args.toList = args := by
  unfold compOp compEq compEqs at h
  split at h <;> try ((repeat' split at h) <;> cases h; done)
  rename_i cl hop
  split at h <;> try (first | ((repeat' split at h) <;> cases h; done) | (obtain ⟨x, y, _, ⟨_, h1⟩ | ⟨_, h1⟩⟩ := compBi_spec h <;> cases h1; done))
  rename_i f' hc
  cases h
  exact ⟨cl, hop, hc, rfl⟩
theorem comp_callv {o : Oper} {g : Operand} {args : List Operand} (h : compOp P o = some (.callv g args)) : ∃ cl, o.op = .call cl ∧ cl.callee = .value g ∧ cl.args.toList = args := by
  unfold compOp compEq compEqs at h
  split at h <;> try ((repeat' split at h) <;> cases h; done)
  rename_i cl hop
  split at h <;> try (first | ((repeat' split at h) <;> cases h; done) | (obtain ⟨x, y, _, ⟨_, h1⟩ | ⟨_, h1⟩⟩ := compBi_spec h <;> cases h1; done))
  rename_i f' hne hc
  cases h
  exact ⟨cl, hop, hc, rfl⟩
/-- one operation -/
theorem entry_wp {ro : Option Nat} {rm : Nat} {done done' : Nat → Prop} {c : Cx} {st : ASt} {a : Act} (h : RelR N nx done c st a) {e : TE} (he : TOk P ops N nx e st) (hi : ¬ done e.i) (hd : ∀ j, done j ∨ j = e.i → done' j) {K : Act → World → Prop} {Q : Exit → Act → World → Prop}
    (hK : ∀ c' a', Later nx c c' → a'.defers = a.defers → RelR N nx done' c' (e.next st) a' → K a' c'.w) : wpOpIn (FR ro) rm P ops Q e.i K a c.w := by
  obtain ⟨h1, h2, h3⟩ := he
  unfold wpOpIn
  rw [h1]
  simp only
  have hfr : ∀ id, nx + 100000 * e.i ≤ id → c.φ id = none ∨ nx + 100000 * e.i + 100000 ≤ id := by
    intro id hid
    cases hc : c.φ id with
    | none => exact .inl rfl
    | some x =>
      obtain ⟨j, hj, h4, h5⟩ := h.fresh id (by omega) (by rw [hc]; simp)
      right
      have : j ≠ e.i := fun e1 => hi (e1 ▸ hj)
      omega
  cases ham : e.am with
  | none =>
    rw [ham] at h3
    obtain ⟨e1, e2, e3, e4⟩ := h3
    rw [guard_wanted h e4, if_neg (by decide)]
    refine ⟨fun _ _ => trivial, ?_⟩
    refine hK c _ (Later.refl c) (put_defers ..) ?_
    have := h.skip (done' := done') h2 (fun j hj => hd j (.inl hj))
    unfold TE.next
    rw [e1, e3]; exact this
  | some m =>
    rw [ham] at h3
    obtain ⟨g, hrun, ao, hao, hdo⟩ := h3
    have hw : Region.wanted e.o (yielded ops a.tmps) = true := by
      rcases g with g | g
      · simp [Region.wanted, g]
      · exact guard_wanted h g
    rw [hw, if_pos rfl]
    have hrun' : m.run c.σ = some (e.r, e.R, e.W) := by rw [h.σ]; exact hrun
    have main : ∀ v d, VR d e.r v → Then c (nx + 100000 * e.i) e.W d → K (a.put e.o.dst v) d.w := fun v d hv T => hK d _ (T.later (by omega)) (put_defers ..) (h.put T hv h2 hd)
    have effcase : m = eff (evA st.env) (nx + 100000 * e.i) ao → e.o.wpIn (FR ro) rm P a c.w K Q := by
      intro hm
      subst hm
      obtain ⟨nxt, v, d, k1, k2, k3, k4⟩ := eff_sound (nb := nx + 100000 * e.i) hao h.eval (fun _ => rfl) _ _ _ hrun' h.hr hfr
      refine ⟨fun _ _ => trivial, ?_⟩
      rw [Oper.semAt_eq _ _ _ (no_defer hao), k1]
      rcases k2 with rfl | ⟨rfl, rfl⟩
      · exact main v d k3 k4
      · exact main undef d k3 k4
    cases ao with
    | call f args =>
      obtain ⟨hent, hs⟩ := hdo
      have hop := comp_call hao
      obtain ⟨cl, e1, e2, rfl⟩ := hop
      refine calls_wp hao (f := f) (us := cl.args.toList.map a.eval) ?_ (hs c _ _ _ _ hrun' h.hr hfr (VRt_map h.eval _)) main
      simp only [execOp, e1, resolve, e2, show a.eval (.func f) = .func (.func f) #[] #[] from rfl, Deferred.ofValue, invoke, Sem.run_bind, Sem.run_pure, Result.andThen_ok]
      simp [run_callFunc hent]
      apply Array.ext'
      simp
    | callv g args =>
      obtain ⟨f, caps, hg, hent, hs⟩ := hdo
      have hop := comp_callv hao
      obtain ⟨cl, e1, e2, rfl⟩ := hop
      have hgv := h.eval g
      rw [hg] at hgv
      obtain ⟨us, hgu, hus⟩ := hgv
      have happ : ∀ {l1 l2 : List AV} {u1 u2 : List Value}, VRt c l1 u1 → VRt c l2 u2 → VRt c (l1 ++ l2) (u1 ++ u2) := by
        intro l1
        induction l1 with
        | nil => intro l2 u1 u2 h1 h2; rw [VRt] at h1; subst h1; exact h2
        | cons x l1 ih =>
          intro l2 u1 u2 h1 h2
          rw [VRt] at h1
          obtain ⟨u, us', rfl, h3, h4⟩ := h1
          exact ⟨u, us' ++ u2, rfl, h3, ih h4 h2⟩
      refine calls_wp hao (f := f) (us := cl.args.toList.map a.eval ++ us) ?_ (hs c _ _ _ _ hrun' h.hr hfr (happ (VRt_map h.eval _) hus)) main
      simp only [execOp, e1, resolve, e2, hgu, Deferred.ofValue, invoke, Sem.run_bind, Sem.run_pure, Result.andThen_ok]
      simp [run_callFunc hent]
    | _ => exact effcase hdo
end Go.Proofs.YtonglhkiobibgaaGreatDoor
namespace Go.Proofs.YtonglhkiobibgaaGreatDoor
open Go.RowKit
variable {P : Program} {ops : Array Oper} {N nx : Nat}

theorem AM.run_congr {σ σ' : Heap} : ∀ {m : AM} {r : AV} {R : List Nat} {W : List (Nat × Option AObj)}, m.run σ = some (r, R, W) → (∀ id ∈ R, σ' id = σ id) → m.run σ' = some (r, R, W)
  | .fail, _, _, _, h, _ => by cases h
  | .ret _ _, _, _, _, h, _ => h
  | .rd id k, r, R, W, h, hR => by
    rw [AM.run] at h ⊢
    split at h
    · rename_i o ho
      split at h
      · rename_i r' R' W' hk
        simp at h
        obtain ⟨rfl, rfl, rfl⟩ := h
        rw [hR id (by simp), ho]
        simp only
        rw [AM.run_congr hk (fun i hi => hR i (by simp [hi]))]
      · cases h
    · cases h
theorem app_out {σ : Heap} : ∀ {W : List (Nat × Option AObj)} {id : Nat}, id ∉ W.map (·.1) → app σ W id = σ id
  | [], _, _ => rfl
  | (i, o) :: W, id, h => by
    simp at h
    rw [app, app_out (by simpa using h.2)]
    simp [h.1]
theorem app_in {σ σ' : Heap} : ∀ {W : List (Nat × Option AObj)} {id : Nat}, id ∈ W.map (·.1) → app σ W id = app σ' W id
  | [], _, h => by simp at h
  | (i, o) :: W, id, h => by
    rw [app, app]
    by_cases h2 : id ∈ W.map (·.1)
    · exact app_in h2
    · rw [app_out h2, app_out h2]
      simp at h h2
      rcases h with h | ⟨a, h⟩
      · simp [h]
      · exact absurd h (h2 a)
theorem app_comm {σ : Heap} {W W' : List (Nat × Option AObj)} (h : ∀ id ∈ W.map (·.1), id ∉ W'.map (·.1)) : app (app σ W) W' = app (app σ W') W := by
  funext id
  by_cases h1 : id ∈ W.map (·.1)
  · rw [app_out (h id h1)]
    exact app_in h1
  · rw [app_out (σ := app σ W') h1]
    by_cases h2 : id ∈ W'.map (·.1)
    · exact app_in h2
    · rw [app_out h2, app_out h2, app_out h1]
theorem putE_comm {env : Nat → AV} {d d' : Option Nat} {x y : AV} (h : ∀ t, d = some t → d' ≠ some t) : putE (putE env d x) d' y = putE (putE env d' y) d x := by
  cases d with
  | none => cases d' <;> rfl
  | some t =>
    cases d' with
    | none => rfl
    | some u =>
      funext k
      have := h t rfl
      simp at this
      simp only [putE]
      by_cases e1 : k = t <;> by_cases e2 : k = u <;> simp [e1, e2]
      · omega
      · intro h9; omega
      · intro h9; omega
theorem putE_out {env : Nat → AV} {d : Option Nat} {x : AV} {t : Nat} (h : d ≠ some t) : putE env d x t = env t := by
  cases d with
  | none => rfl
  | some k => simp only [putE]; rw [if_neg]; intro e; exact h (by rw [e])

theorem TOk_congr {e : TE} {st st' : ASt} (h : TOk P ops N nx e st) (hE : ∀ t ∈ e.o.looksAt ops, st'.env t = st.env t) (hR : ∀ id ∈ e.R, st'.σ id = st.σ id) : TOk P ops N nx e st' := by
  obtain ⟨h1, h2, h3⟩ := h
  have gd : ∀ {b : Bool}, GuardIs ops e.o st.env b → GuardIs ops e.o st'.env b := by
    rintro b ⟨j, want, o', s, g1, g2, g3, g4⟩
    exact ⟨j, want, o', s, g1, g2, g3, by rw [hE s (by simp [Oper.looksAt, g1, g2, g3])]; exact g4⟩
  have op : ∀ x ∈ e.o.op.operands, evA st.env x = evA st'.env x := by
    intro x hx
    cases x with
    | tmp t => exact (hE t (by simp only [Oper.looksAt, List.mem_append, List.mem_filterMap]; exact .inl ⟨.tmp t, by simpa using hx, rfl⟩)).symm
    | _ => rfl
  refine ⟨h1, h2, ?_⟩
  cases ham : e.am with
  | none =>
    rw [ham] at h3
    obtain ⟨e1, e2, e3, e4⟩ := h3
    exact ⟨e1, e2, e3, gd e4⟩
  | some m =>
    rw [ham] at h3
    obtain ⟨g, hrun, ao, hao, hdo⟩ := h3
    refine ⟨g.imp id gd, AM.run_congr hrun hR, ao, hao, ?_⟩
    cases ao with
    | call f args =>
      obtain ⟨cl, e1, e2, rfl⟩ := comp_call hao
      have : cl.args.toList.map (evA st.env) = cl.args.toList.map (evA st'.env) := List.map_congr_left fun x hx => op x (by rw [e1]; simp [Op.operands, Call.operands]; exact .inr (by simpa using hx))
      show ASound P f (cl.args.toList.map (evA st'.env)) _ m
      rw [← this]; exact hdo
    | callv g args =>
      obtain ⟨cl, e1, e2, rfl⟩ := comp_callv hao
      obtain ⟨f, caps, hg, hs⟩ := hdo
      have : cl.args.toList.map (evA st.env) = cl.args.toList.map (evA st'.env) := List.map_congr_left fun x hx => op x (by rw [e1]; simp [Op.operands, Call.operands]; exact .inr (by simpa using hx))
      refine ⟨f, caps, by rw [← op g (by rw [e1]; simp [Op.operands, Call.operands, e2])]; exact hg, ?_⟩
      rw [← this]; exact hs
    | _ => exact (show m = _ from hdo).trans (eff_congr hao op _)

/-- two operations that do not touch each other -/
def Indep (ops : Array Oper) (x e : TE) : Prop :=
  x.o.apart ops e.o = true ∧ (∀ id ∈ x.W.map (·.1), id ∉ e.R ∧ id ∉ e.W.map (·.1)) ∧ ∀ id ∈ e.W.map (·.1), id ∉ x.R
theorem swap {x e : TE} {st : ASt} (hx : TOk P ops N nx x st) (he : TOk P ops N nx e (x.next st)) (hi : Indep ops x e) : TOk P ops N nx e st ∧ TOk P ops N nx x (e.next st) ∧ x.next (e.next st) = e.next (x.next st) := by
  obtain ⟨h1, h2, h3⟩ := hi
  obtain ⟨a1, a2, a3⟩ := Oper.apart_spec h1
  refine ⟨TOk_congr he (fun t ht => ?_) (fun id hid => ?_), TOk_congr hx (fun t ht => ?_) (fun id hid => ?_), ?_⟩
  · exact (putE_out (fun e1 => a1 t e1 ht)).symm
  · exact (app_out (fun e1 => (h2 id e1).1 hid)).symm
  · exact putE_out (fun e1 => a3 t e1 ht)
  · exact app_out (fun e1 => h3 id e1 hid)
  · unfold TE.next
    simp only
    rw [putE_comm (fun t ht => a2 t ht |> fun k => k), app_comm (W := x.W) (fun id hid => (h2 id hid).2)]

def Chain (P : Program) (ops : Array Oper) (N nx : Nat) : List TE → ASt → ASt → Prop
  | [], s, f => s = f
  | e :: r, s, f => TOk P ops N nx e s ∧ Chain P ops N nx r (e.next s) f
theorem Chain.front {e : TE} {f : ASt} : ∀ {xs ys : List TE} {s : ASt}, Chain P ops N nx (xs ++ e :: ys) s f → (∀ x ∈ xs, Indep ops x e) → TOk P ops N nx e s ∧ Chain P ops N nx (xs ++ ys) (e.next s) f
  | [], ys, s, h, _ => h
  | x :: xs, ys, s, h, hi => by
    obtain ⟨h1, h2⟩ := h
    obtain ⟨h3, h4⟩ := Chain.front h2 (fun y hy => hi y (by simp [hy]))
    obtain ⟨h5, h6, h7⟩ := swap h1 h3 (hi x (by simp))
    exact ⟨h5, h6, by rw [h7]; exact h4⟩

/-- j comes ahead of i by the edges -/
def isPre (ops : Array Oper) : Nat → Nat → Nat → Bool
  | 0, _, _ => false
  | f + 1, j, i => match ops[i]? with
    | some o => o.after.any fun e => Region.binds .any e && (e.on == j || isPre ops f j e.on)
    | none => false
/-- what is listed has all ahead of it listed -/
def Down (ops : Array Oper) (listed : Array Bool) : Prop := ∀ (j : Nat) o, ops[j]? = some o → listed.getD j true = true → ∀ ed ∈ o.after, Region.binds .any ed = true → listed.getD ed.on false = true
theorem isPre_listed {listed : Array Bool} (hd : Down ops listed) (hs : listed.size = ops.size) : ∀ {f j i : Nat} {o : Oper}, ops[i]? = some o → (∀ ed ∈ o.after, Region.binds .any ed = true → listed.getD ed.on false = true) → isPre ops f j i = true → listed.getD j false = true
  | 0, j, i, o, _, _, h => by simp [isPre] at h
  | f + 1, j, i, o, ho, hl, h => by
    rw [isPre, ho] at h
    simp only at h
    rw [← Array.any_toList, List.any_eq_true] at h
    obtain ⟨ed, hm, h⟩ := h
    have hm : ed ∈ o.after := by simpa using hm
    simp only [Bool.and_eq_true, Bool.or_eq_true, beq_iff_eq] at h
    obtain ⟨hb, h⟩ := h
    have hon := hl ed hm hb
    rcases h with rfl | h
    · exact hon
    · have hlt : ed.on < ops.size := by
        rw [← hs]
        rcases Nat.lt_or_ge ed.on listed.size with h' | h'
        · exact h'
        · simp [Array.getElem?_eq_none h'] at hon
      refine isPre_listed hd hs (Array.getElem?_eq_getElem hlt) (fun ed' hm' hb' => hd ed.on _ (Array.getElem?_eq_getElem hlt) ?_ ed' hm' hb') h
      have hl' : ed.on < listed.size := by omega
      simpa [hl'] using hon

theorem any_trace {ro : Option Nat} {rm : Nat} {f : ASt} {Q : Exit → Act → World → Prop} (hback : ∀ (i : Nat) o, ops[i]? = some o → ∀ ed ∈ o.after, Region.binds .any ed = true → ed.on < i) :
    ∀ (n : Nat) (tr : List TE) (fuel : Nat) (listed : Array Bool) (st : ASt) (c : Cx) (a : Act), tr.length = n → n ≤ fuel → listed.size = ops.size → Down ops listed →
    (∀ i, i < ops.size → (listed.getD i true = false ↔ ∃ e ∈ tr, e.i = i)) → (tr.map (·.i)).Pairwise (· < ·) → (∀ e ∈ tr, e.i < ops.size) →
    tr.Pairwise (fun x e => (∃ k, isPre ops k x.i e.i = true) ∨ Indep ops x e) → Chain P ops N nx tr st f →
    RelR N nx (fun j => listed.getD j false = true) c st a → (∀ c' a', Later nx c c' → a'.defers = a.defers → RelR N nx (fun j => j < ops.size) c' f a' → Q .normal a' c'.w) → wpAnyIn (FR ro) rm P .any ops Q fuel listed a c.w := by
  intro n
  induction n with
  | zero =>
    intro tr fuel listed st c a hn _ hsz hdn hidx _ _ _ hch hrel hQ
    have htr : tr = [] := List.eq_nil_of_length_eq_zero hn
    subst htr
    have hst : st = f := hch
    subst hst
    have hnor : Q .normal a c.w := hQ c a (Later.refl c) rfl ⟨hrel.size, hrel.env, hrel.hr, hrel.σ, fun id h1 h2 => by
      obtain ⟨j, h3, h4⟩ := hrel.fresh id h1 h2
      refine ⟨j, ?_, h4⟩
      rw [← hsz]
      rcases Nat.lt_or_ge j listed.size with h' | h'
      · exact h'
      · simp [Array.getElem?_eq_none h'] at h3⟩
    have hready : Region.ready .any ops listed = [] := by
      rw [List.eq_nil_iff_forall_not_mem]
      intro i hi
      rw [mem_ready] at hi
      obtain ⟨h1, o, h2, _⟩ := hi
      have hlt : i < ops.size := (Array.getElem?_eq_some_iff.1 h2).1
      obtain ⟨e, he, _⟩ := (hidx i hlt).1 h1
      cases he
    cases fuel with
    | zero => exact ⟨hready, hnor⟩
    | succ k => exact ⟨fun _ => hnor, fun i hi => by rw [hready] at hi; cases hi⟩
  | succ n ih =>
    intro tr fuel listed st c a hn hf hsz hdn hidx hsort hlt hind hch hrel hQ
    cases fuel with
    | zero => omega
    | succ k =>
      refine ⟨fun hnil => ?_, fun i hi => ?_⟩
      · exfalso
        cases tr with
        | nil => simp at hn
        | cons e tr =>
          have hei := hlt e (by simp)
          have hmem : e.i ∈ Region.ready .any ops listed := by
            rw [mem_ready]
            refine ⟨(hidx e.i hei).2 ⟨e, by simp, rfl⟩, _, Array.getElem?_eq_getElem hei, fun ed hm hb => ?_⟩
            have hlt' := hback e.i _ (Array.getElem?_eq_getElem hei) ed hm hb
            cases hl : listed.getD ed.on false with
            | true => rfl
            | false =>
              exfalso
              have hon : ed.on < ops.size := by omega
              have hl2 : listed.getD ed.on true = false := by
                have : ed.on < listed.size := by omega
                simp [this] at hl ⊢
                exact hl
              obtain ⟨e', he', h9⟩ := (hidx ed.on hon).1 hl2
              rcases List.mem_cons.1 he' with rfl | he'
              · omega
              · simp only [List.map_cons, List.pairwise_cons] at hsort
                have := hsort.1 e'.i (List.mem_map.2 ⟨e', he', rfl⟩)
                omega
          rw [hnil] at hmem
          cases hmem
      · rw [mem_ready] at hi
        obtain ⟨h1, o, ho, hrdy⟩ := hi
        have hil : i < ops.size := (Array.getElem?_eq_some_iff.1 ho).1
        obtain ⟨e, he, rfl⟩ := (hidx i hil).1 h1
        obtain ⟨xs, ys, rfl⟩ := List.append_of_mem he
        have hx : ∀ x ∈ xs, Indep ops x e := by
          intro x hxm
          rw [List.pairwise_append] at hind
          rcases hind.2.2 x hxm e (by simp) with ⟨q, h9⟩ | h9
          · exfalso
            have h8 := isPre_listed hdn hsz ho hrdy h9
            have h7 := (hidx x.i (hlt x (by simp [hxm]))).2 ⟨x, by simp [hxm], rfl⟩
            have : x.i < listed.size := by rw [hsz]; exact hlt x (by simp [hxm])
            simp [this] at h7 h8
            rw [h7] at h8; cases h8
          · exact h9
        obtain ⟨hok, hch'⟩ := hch.front hx
        have hlj : e.i < listed.size := by omega
        have hget : ∀ j, (listed.setIfInBounds e.i true).getD j false = true ↔ (listed.getD j false = true ∨ j = e.i) := by
          intro j
          by_cases hj : e.i = j
          · subst hj; simp [hlj]
          · rw [getD_set_ne false hj]
            constructor
            · exact .inl
            · rintro (h | h)
              · exact h
              · exact absurd h.symm hj
        refine entry_wp hrel hok (by
          intro h9
          simp [hlj] at h1 h9
          rw [h1] at h9; cases h9) (done' := fun j => (listed.setIfInBounds e.i true).getD j false = true) (fun j hj => (hget j).2 hj) ?_
        intro c' a' hl' hd' hrel'
        refine ih (xs ++ ys) k _ _ c' a' (by simp at hn ⊢; omega) (by omega) (by simpa using hsz) ?_ ?_ ?_ ?_ ?_ hch' hrel' (fun c2 a2 hl2 hd2 hr2 => hQ c2 a2 (hl'.trans hl2) (hd2.trans hd') hr2)
        · intro j oj hoj hlj' ed hm hb
          rw [hget]
          by_cases hj : e.i = j
          · subst hj
            rw [ho] at hoj
            cases hoj
            exact .inl (hrdy ed hm hb)
          · rw [getD_set_ne true hj] at hlj'
            exact .inl (hdn j oj hoj hlj' ed hm hb)
        · intro j hj
          have hsm : ∀ e' ∈ xs ++ ys, e'.i ≠ e.i := by
            intro e' he'
            simp only [List.map_append, List.map_cons, List.pairwise_append, List.pairwise_cons] at hsort
            rcases List.mem_append.1 he' with h | h
            · have := hsort.2.2 e'.i (List.mem_map.2 ⟨e', h, rfl⟩) e.i (by simp); omega
            · have := hsort.2.1.1 e'.i (List.mem_map.2 ⟨e', h, rfl⟩); omega
          by_cases hje : e.i = j
          · subst hje
            constructor
            · intro h9; simp [hlj] at h9
            · rintro ⟨e', he', h9⟩; exact absurd h9 (hsm e' he')
          · rw [getD_set_ne true hje, hidx j hj]
            constructor
            · rintro ⟨e', he', h9⟩
              refine ⟨e', ?_, h9⟩
              rcases List.mem_append.1 he' with h | h
              · simp [h]
              · rcases List.mem_cons.1 h with rfl | h
                · exact absurd h9 hje
                · simp [h]
            · rintro ⟨e', he', h9⟩
              refine ⟨e', ?_, h9⟩
              rcases List.mem_append.1 he' with h | h
              · simp [h]
              · simp [h]
        · have hsub : (xs ++ ys).Sublist (xs ++ e :: ys) := List.Sublist.append (List.Sublist.refl xs) (List.sublist_cons_self e ys)
          exact hsort.sublist (hsub.map _)
        · intro e' he'
          refine hlt e' ?_
          rcases List.mem_append.1 he' with h | h
          · simp [h]
          · simp [h]
        · have hsub : (xs ++ ys).Sublist (xs ++ e :: ys) := List.Sublist.append (List.Sublist.refl xs) (List.sublist_cons_self e ys)
          exact hind.sublist hsub

theorem text_trace {ro : Option Nat} {rm : Nat} {f : ASt} {Q : Exit → Act → World → Prop} : ∀ (tr : List TE) (k : Nat) (st : ASt) (c : Cx) (a : Act), k + tr.length = ops.size → (∀ (j : Nat) e, tr[j]? = some e → e.i = k + j) → Chain P ops N nx tr st f →
    RelR N nx (fun j => j < k) c st a → (∀ c' a', Later nx c c' → a'.defers = a.defers → RelR N nx (fun j => j < ops.size) c' f a' → Q .normal a' c'.w) → wpOpsIn (FR ro) rm P ops Q (List.range' k tr.length) a c.w
  | [], k, st, c, a, hk, _, hch, hrel, hQ => by
    have hst : st = f := hch
    subst hst
    simp at hk
    simp only [List.length_nil, List.range'_zero, wpOpsIn]
    exact hQ c a (Later.refl c) rfl (by rw [← hk]; exact hrel)
  | e :: tr, k, st, c, a, hk, hidx, hch, hrel, hQ => by
    obtain ⟨h1, h2⟩ := hch
    have he : e.i = k := by simpa using hidx 0 e rfl
    rw [List.length_cons, List.range'_succ, wpOpsIn_cons, ← he]
    refine entry_wp hrel h1 (by omega) (done' := fun j => j < k + 1) (fun j hj => by omega) (fun c' a' hl hd hr => ?_)
    rw [he]
    exact text_trace tr (k + 1) _ c' a' (by simp at hk; omega) (fun j e' hj => by have := hidx (j + 1) e' (by simpa using hj); omega) h2 hr (fun c2 a2 hl2 hd2 hr2 => hQ c2 a2 (hl.trans hl2) (hd2.trans hd) hr2)
end Go.Proofs.YtonglhkiobibgaaGreatDoor
namespace Go.Proofs.YtonglhkiobibgaaGreatDoor
open Go.RowKit
variable {P : Program} {N nx : Nat}

/-- An operation of a region: its slot, its guard's slot, the slots it looks at, and which come ahead of it. -/
structure RO where
  dst : Option Nat
  op : AO
  guard : Option (Nat × Bool)
  look : List Nat
  pre : List Nat
inductive AC where
  | skip
  | reg (draw : Bool) (rs : List RO) (keep : List Nat)
  | seq (a b : AC)
  | cond (c : Operand) (a b : AC)
  | block (id : Nat) (b : AC)
  | loop (b : AC)
  | exit (id : Nat)
  | ret
  /-- here what is known may be said in another way -/
  | weak (b : AC)
  /-- a range over a function: the slots that take what is yielded, the moves ahead of the body -/
  | rfunc (g : Operand) (ps : List Nat) (mv : List (Nat × Operand)) (b : AC)
  /-- the same, where what is ahead of the body is more than moves -/
  | rfuncC (g : Operand) (ps : List Nat) (a b : AC)

def dirL (o : Oper) : List Nat := o.after.toList.filterMap fun e => if Region.binds .any e = true then some e.on else none
/-- which operations come ahead of each, by the edges -/
def preL : List Oper → List (List Nat) → List (List Nat)
  | [], acc => acc
  | o :: r, acc => preL r (acc ++ [(dirL o ++ (dirL o).flatMap fun j => acc.getD j []).eraseDups])
def guardOf (ops : Array Oper) (o : Oper) : Option (Option (Nat × Bool)) :=
  match o.guard with
  | none => some none
  | some (j, want) => match ops[j]? with
    | some o' => match o'.dst with
      | some s => some (some (s, want))
      | none => none
    | none => none
def dstOk (d : Option Nat) (N : Nat) : Bool := match d with | some d => decide (d < N) | none => true
def compRO (P : Program) (ops : Array Oper) (N : Nat) (o : Oper) (pre : List Nat) : Option RO :=
  match compOp P o with
  | some ao => match guardOf ops o with
    | some g => if dstOk o.dst N = true then some ⟨o.dst, ao, g, o.looksAt ops, pre⟩ else none
    | none => none
  | none => none
def compROs (P : Program) (ops : Array Oper) (N : Nat) : List Oper → List (List Nat) → Option (List RO)
  | [], _ => some []
  | o :: r, pre => match compRO P ops N o (pre.headD []) with
    | some x => match compROs P ops N r pre.tail with
      | some l => some (x :: l)
      | none => none
    | none => none
def backOk (ops : List Oper) : Nat → Bool := fun k => match ops with
  | [] => true
  | o :: r => (o.after.all fun e => !Region.binds .any e || decide (e.on < k)) && backOk r (k + 1)
def mvOps : List Oper → Option (List (Nat × Operand))
  | [] => some []
  | o :: r => match o.op, o.dst, o.guard with
    | .move x, some d, none | .assign x, some d, none => match mvOps r with
      | some l => some ((d, x) :: l)
      | none => none
    | _, _, _ => none
def compMv : Code → Option (List (Nat × Operand))
  | .skip => some []
  | .region _ ops draw => if draw = true then none else mvOps ops.toList
  | .seq a b => match compMv a with
    | some l => match compMv b with
      | some r => some (l ++ r)
      | none => none
    | none => none
  | _ => none
def compCode (P : Program) (N : Nat) : Code → Option AC
  | .skip => some .skip
  | .region _ ops draw => if draw = true then (if backOk ops.toList 0 = true ∧ P.follows .mixedOrders = true then (match compROs P ops N ops.toList (preL ops.toList []) with | some l => some (.reg true l []) | none => none) else none)
    else (match compROs P ops N ops.toList [] with | some l => some (.reg false l []) | none => none)
  | .seq a b => match compCode P N a with
    | some x => match compCode P N b with
      | some y => some (.seq x y)
      | none => none
    | none => none
  | .cond c a b => match compCode P N a with
    | some x => match compCode P N b with
      | some y => some (.cond c x y)
      | none => none
    | none => none
  | .block id b => match compCode P N b with
    | some x => some (.block id x)
    | none => none
  | .loop b => match compCode P N b with
    | some x => some (.loop x)
    | none => none
  | .exit id => some (.exit id)
  | .ret => some .ret
  | .rangeFunc g ps asg b => match compMv asg with
    | some mv => match compCode P N b with
      | some x => if (ps.toList.all (fun p => decide (p < N)) && mv.all fun q => decide (q.1 < N)) = true then some (.rfunc g ps.toList mv x) else none
      | none => none
    | none => match compCode P N asg with
      | some y => match compCode P N b with
        | some x => if ps.toList.all (fun p => decide (p < N)) = true then some (.rfuncC g ps.toList y x) else none
        | none => none
      | none => none
  | _ => none
/-- no range over a function inside -/
def AC.flat : AC → Bool
  | .seq a b | .cond _ a b => a.flat && b.flat
  | .block _ b | .loop b | .weak b => b.flat
  | .rfunc _ _ _ _ => false
  | .rfuncC _ _ _ _ => false
  | _ => true
def AC.forget : AC → AC
  | .reg d rs _ => .reg d rs []
  | .seq a b => .seq a.forget b.forget
  | .cond c a b => .cond c a.forget b.forget
  | .block id b => .block id b.forget
  | .loop b => .loop b.forget
  | .weak b => b.forget
  | .rfunc g ps mv b => .rfunc g ps mv b.forget
  | .rfuncC g ps a b => .rfuncC g ps a.forget b.forget
  | c => c

structure Foot where
  k : Nat
  dst : Option Nat
  look : List Nat
  pre : List Nat
  R : List Nat
  W : List Nat
def memD (d : Option Nat) (l : List Nat) : Bool := match d with | some d => l.contains d | none => false
def apartB (x e : Foot) : Bool := e.pre.contains x.k || (!memD x.dst e.look && !memD e.dst x.look && (match x.dst with | some d => e.dst != some d | none => true) &&
  x.W.all (fun i => !e.R.contains i && !e.W.contains i) && e.W.all (fun i => !x.R.contains i))
/-- the later ones first -/
def fsOK : List Foot → Bool
  | [] => true
  | e :: fs => fs.all (fun x => apartB x e) && fsOK fs

def AM.runK (σ : Heap) : AM → (AV → List Nat → List (Nat × Option AObj) → Prop) → Prop
  | .fail, _ => False
  | .ret r W, K => K r [] W
  | .rd id k, K => match σ id with
    | some o => (k o).runK σ fun r R W => K r (id :: R) W
    | none => False
theorem AM.runK_iff {σ : Heap} : ∀ {m : AM} {K : AV → List Nat → List (Nat × Option AObj) → Prop}, m.runK σ K → ∃ r R W, m.run σ = some (r, R, W) ∧ K r R W
  | .fail, _, h => h.elim
  | .ret r W, _, h => ⟨r, [], W, rfl, h⟩
  | .rd id k, K, h => by
    rw [AM.runK] at h
    split at h
    · rename_i o ho
      obtain ⟨r, R, W, h1, h2⟩ := AM.runK_iff h
      exact ⟨r, id :: R, W, by rw [AM.run, ho]; simp only; rw [h1], h2⟩
    · exact h.elim
def execL (P : Program) (st : ASt) (op : AO) (nb : Nat) (K : AV → List Nat → List (Nat × Option AObj) → Prop) : Prop :=
  match op with
  | .call f args => ∃ m, ASound P f (args.map (evA st.env)) nb m ∧ m.runK st.σ K
  | .callv g args => ∃ f caps m, evA st.env g = .fn f caps ∧ ASound P f (args.map (evA st.env) ++ caps) nb m ∧ m.runK st.σ K
  | ao => (eff (evA st.env) nb ao).runK st.σ K
theorem execL_run {st : ASt} {op : AO} {nb : Nat} {K : AV → List Nat → List (Nat × Option AObj) → Prop} (h : execL P st op nb K) : ∃ m r R W, DoesA P st.env nb m op ∧ m.run st.σ = some (r, R, W) ∧ K r R W := by
  cases op with
  | call f args =>
    obtain ⟨m, h1, h2⟩ := h
    obtain ⟨r, R, W, h3, h4⟩ := AM.runK_iff h2
    exact ⟨m, r, R, W, h1, h3, h4⟩
  | callv g args =>
    obtain ⟨f, caps, m, h0, h1, h2⟩ := h
    obtain ⟨r, R, W, h3, h4⟩ := AM.runK_iff h2
    exact ⟨m, r, R, W, ⟨f, caps, h0, h1⟩, h3, h4⟩
  | _ =>
    obtain ⟨r, R, W, h3, h4⟩ := AM.runK_iff h
    exact ⟨_, r, R, W, rfl, h3, h4⟩
/-- a guard: the operation is done, or not -/
def guardK (a : AV) (want : Bool) (yes no und : Prop) : Prop :=
  match a with
  | .v (.bool b) => (b = want → yes) ∧ (b = !want → no)
  | .v (.tuple _) => und
  | _ => False
/-- a slot's bool is known now -/
def ASt.know (st : ASt) (s : Nat) (b : Bool) : ASt := ⟨putE st.env (some s) (.v (.bool b)), st.σ, st.nx⟩
theorem ASt.know_eq {st : ASt} {s : Nat} {b : Bool} (h : st.env s = .v (.bool b)) : st.know s b = st := by
  unfold ASt.know
  have : putE st.env (some s) (.v (.bool b)) = st.env := by
    funext t
    simp only [putE]
    split
    · rename_i e; rw [e, h]
    · rfl
  rw [this]
def runL (P : Program) (nx : Nat) : List RO → Nat → ASt → List Foot → (ASt → List Foot → Prop) → Prop
  | [], _, st, fs, Q => Q st fs
  | r :: rs, k, st, fs, Q => match r.guard with
    | none => execL P st r.op (nx + 100000 * k) fun x R W => runL P nx rs (k + 1) ⟨putE st.env r.dst x, app st.σ W, st.nx⟩ (⟨k, r.dst, r.look, r.pre, R, W.map (·.1)⟩ :: fs) Q
    | some (s, want) => guardK (st.env s) want (execL P (st.know s want) r.op (nx + 100000 * k) fun x R W => runL P nx rs (k + 1) ⟨putE (st.know s want).env r.dst x, app st.σ W, st.nx⟩ (⟨k, r.dst, r.look, r.pre, R, W.map (·.1)⟩ :: fs) Q)
      (runL P nx rs (k + 1) ⟨putE (st.know s (!want)).env r.dst (.v undef), st.σ, st.nx⟩ (⟨k, r.dst, r.look, r.pre, [], []⟩ :: fs) Q)
      (runL P nx rs (k + 1) ⟨putE st.env r.dst (.v undef), st.σ, st.nx⟩ (⟨k, r.dst, r.look, r.pre, [], []⟩ :: fs) Q)

/-- a compiled operation is the k-th of ops -/
def Fits (P : Program) (ops : Array Oper) (N k : Nat) (r : RO) : Prop :=
  ∃ o, ops[k]? = some o ∧ compOp P o = some r.op ∧ r.dst = o.dst ∧ (∀ d, o.dst = some d → d < N) ∧ guardOf ops o = some r.guard ∧ r.look = o.looksAt ops ∧ ∀ j ∈ r.pre, ∃ q, isPre ops q j k = true
def footOf (r : RO) (e : TE) : Foot := ⟨e.i, r.dst, r.look, r.pre, e.R, e.W.map (·.1)⟩
theorem runL_trace {ops : Array Oper} {Q : ASt → List Foot → Prop} : ∀ {rs : List RO} {k : Nat} {st : ASt} {fs : List Foot}, (∀ (j : Nat) r, rs[j]? = some r → Fits P ops N (k + j) r) → runL P nx rs k st fs Q →
    ∃ tr f, tr.length = rs.length ∧ (∀ (j : Nat) e, tr[j]? = some e → e.i = k + j) ∧ Chain P ops N nx tr st f ∧ Q f ((List.zipWith footOf rs tr).reverse ++ fs) ∧ f.nx = st.nx
  | [], k, st, fs, _, h => ⟨[], st, rfl, by simp, rfl, by simpa [runL] using h, rfl⟩
  | r :: rs, k, st, fs, hf, h => by
    obtain ⟨o, h1, h2, h3, h4, h5, h6, h7⟩ := hf 0 r rfl
    rw [Nat.add_zero] at h1
    have hf' : ∀ (j : Nat) x, rs[j]? = some x → Fits P ops N (k + 1 + j) x := fun j x hj => by have := hf (j + 1) x (by simpa using hj); rwa [Nat.add_assoc, Nat.add_comm 1 j]
    have done : ∀ e : TE, e.i = k → TOk P ops N nx e st → runL P nx rs (k + 1) (e.next st) (footOf r e :: fs) Q →
        ∃ tr f, tr.length = (r :: rs).length ∧ (∀ (j : Nat) e, tr[j]? = some e → e.i = k + j) ∧ Chain P ops N nx tr st f ∧ Q f ((List.zipWith footOf (r :: rs) tr).reverse ++ fs) ∧ f.nx = st.nx := by
      intro e he hok hrun
      obtain ⟨tr, f, t1, t2, t3, t4, t5⟩ := runL_trace hf' hrun
      refine ⟨e :: tr, f, by simp [t1], fun j x hj => ?_, ⟨hok, t3⟩, by simpa using t4, t5⟩
      cases j with
      | zero => simp at hj; subst hj; simpa using he
      | succ j => have := t2 j x (by simpa using hj); omega
    have exec : (o.guard = none ∨ GuardIs ops o st.env true) → (execL P st r.op (nx + 100000 * k) fun x R W => runL P nx rs (k + 1) ⟨putE st.env r.dst x, app st.σ W, st.nx⟩ (⟨k, r.dst, r.look, r.pre, R, W.map (·.1)⟩ :: fs) Q) →
        ∃ tr f, tr.length = (r :: rs).length ∧ (∀ (j : Nat) e, tr[j]? = some e → e.i = k + j) ∧ Chain P ops N nx tr st f ∧ Q f ((List.zipWith footOf (r :: rs) tr).reverse ++ fs) ∧ f.nx = st.nx := by
      intro hg hx
      obtain ⟨m, x, R, W, e1, e2, e3⟩ := execL_run hx
      exact done ⟨k, o, some m, x, R, W⟩ rfl ⟨h1, h4, hg, e2, r.op, h2, e1⟩ (by simpa [TE.next, h3, footOf] using e3)
    unfold guardOf at h5
    rw [runL] at h
    split at h5
    · rename_i hg
      simp at h5
      rw [← h5] at h
      exact exec (.inl hg) h
    · rename_i j want hg
      split at h5
      · rename_i o' ho'
        split at h5
        · rename_i s hs
          simp at h5
          rw [← h5] at h
          simp only at h
          unfold guardK at h
          split at h
          · rename_i b hb
            cases hbw : (b == want) with
            | true =>
              have hb' : b = want := by simpa using hbw
              have h9 := h.1 hb'
              rw [ASt.know_eq (by rw [← hb']; exact hb)] at h9
              exact exec (.inr ⟨j, want, o', s, hg, ho', hs, .inl ⟨b, hb, hbw⟩⟩) h9
            | false =>
              have hb' : b = !want := by cases b <;> cases want <;> simp_all
              have h9 := h.2 hb'
              rw [ASt.know_eq (by rw [← hb']; exact hb)] at h9
              exact done ⟨k, o, none, .v undef, [], []⟩ rfl ⟨h1, h4, rfl, rfl, rfl, j, want, o', s, hg, ho', hs, .inl ⟨b, hb, hbw⟩⟩ (by simpa [TE.next, h3, footOf, app] using h9)
          · rename_i tt ht
            exact done ⟨k, o, none, .v undef, [], []⟩ rfl ⟨h1, h4, rfl, rfl, rfl, j, want, o', s, hg, ho', hs, .inr ⟨rfl, tt, ht⟩⟩ (by simpa [TE.next, h3, footOf, app] using h)
          · exact h.elim
        · cases h5
      · cases h5

theorem apartB_spec {ops : Array Oper} {r r' : RO} {x e : TE} (hx : Fits P ops N x.i r) (he : Fits P ops N e.i r') (hxo : ops[x.i]? = some x.o) (heo : ops[e.i]? = some e.o) (h : apartB (footOf r x) (footOf r' e) = true) : (∃ q, isPre ops q x.i e.i = true) ∨ Indep ops x e := by
  obtain ⟨o, a1, a2, a3, a4, a5, a6, a7⟩ := hx
  obtain ⟨o', b1, b2, b3, b4, b5, b6, b7⟩ := he
  rw [hxo] at a1; cases a1
  rw [heo] at b1; cases b1
  simp only [apartB, footOf, Bool.or_eq_true, Bool.and_eq_true, Bool.not_eq_true'] at h
  rcases h with h | ⟨⟨⟨⟨h1, h2⟩, h3⟩, h4⟩, h5⟩
  · exact .inl (b7 x.i (by simpa using h))
  · right
    rw [a3, b6] at h1
    rw [b3, a6] at h2
    rw [a3, b3] at h3
    refine ⟨?_, fun id hid => ?_, fun id hid => ?_⟩
    · unfold Oper.apart
      cases hd : x.o.dst <;> cases hd' : e.o.dst <;> simp_all [memD]
    · have := List.all_eq_true.1 h4 id hid
      simpa using this
    · have := List.all_eq_true.1 h5 id hid
      simpa using this
theorem fsOK_pairwise {ops : Array Oper} : ∀ {rs : List RO} {tr : List TE} {k : Nat}, tr.length = rs.length → (∀ (j : Nat) e, tr[j]? = some e → e.i = k + j) → (∀ (j : Nat) r, rs[j]? = some r → Fits P ops N (k + j) r) → (∀ e ∈ tr, ops[e.i]? = some e.o) →
    fsOK ((List.zipWith footOf rs tr).reverse) = true → tr.Pairwise (fun x e => (∃ q, isPre ops q x.i e.i = true) ∨ Indep ops x e) := by
  have key : ∀ (fs gs : List Foot), fsOK (fs ++ gs) = true → fsOK gs = true ∧ ∀ e ∈ fs, ∀ x ∈ gs, apartB x e = true := by
    intro fs
    induction fs with
    | nil => intro gs h; exact ⟨h, by simp⟩
    | cons e fs ih =>
      intro gs h
      simp only [List.cons_append, fsOK, Bool.and_eq_true] at h
      obtain ⟨h1, h2⟩ := h
      obtain ⟨h3, h4⟩ := ih gs h2
      refine ⟨h3, fun e' he' x hx => ?_⟩
      rcases List.mem_cons.1 he' with rfl | he'
      · exact List.all_eq_true.1 h1 x (by simp [hx])
      · exact h4 e' he' x hx
  have key2 : ∀ (fs gs : List Foot), fsOK (fs ++ gs) = true → fsOK fs = true := by
    intro fs
    induction fs with
    | nil => intro gs _; rfl
    | cons e fs ih =>
      intro gs h
      simp only [List.cons_append, fsOK, Bool.and_eq_true] at h ⊢
      refine ⟨List.all_eq_true.2 fun x hx => List.all_eq_true.1 h.1 x (by simp [hx]), ih gs h.2⟩
  intro rs
  induction rs with
  | nil => intro tr k hl _ _ _ _; have : tr = [] := List.eq_nil_of_length_eq_zero (by simpa using hl); subst this; exact .nil
  | cons r rs ih =>
    intro tr k hl hi hf ho h
    cases tr with
    | nil => simp at hl
    | cons x tr =>
      simp only [List.zipWith_cons_cons, List.reverse_cons] at h
      have h1 := key2 _ _ h
      obtain ⟨_, h2⟩ := key _ _ h
      refine .cons (fun e he => ?_) (ih (k := k + 1) (by simpa using hl) (fun j e hj => by have := hi (j + 1) e (by simpa using hj); omega) (fun j r' hj => by have := hf (j + 1) r' (by simpa using hj); rwa [Nat.add_assoc, Nat.add_comm 1 j]) (fun e he => ho e (by simp [he])) h1)
      obtain ⟨j, hj, rfl⟩ := List.mem_iff_getElem.1 he
      have hjr : j < rs.length := by simp at hl; omega
      have hxi := hi 0 x rfl
      have hei := hi (j + 1) tr[j] (by simp [hj])
      have hfx := hf 0 r rfl
      have hfe := hf (j + 1) rs[j] (by simp [hjr])
      refine apartB_spec (r := r) (r' := rs[j]) (by rw [hxi]; exact hfx) (by rw [hei]; exact hfe) (ho x (by simp)) (ho _ (by simp)) ?_
      refine h2 (footOf rs[j] tr[j]) ?_ (footOf r x) (by simp)
      rw [List.mem_reverse, List.mem_iff_getElem]
      exact ⟨j, by simp only [List.length_zipWith]; omega, by simp⟩
end Go.Proofs.YtonglhkiobibgaaGreatDoor
namespace Go.Proofs.YtonglhkiobibgaaGreatDoor
open Go.RowKit
variable {P : Program} {N m : Nat} {ro : Option Nat}

theorem dirL_spec {o : Oper} {j : Nat} (h : j ∈ dirL o) : ∃ ed ∈ o.after, Region.binds .any ed = true ∧ ed.on = j := by
  unfold dirL at h
  rw [List.mem_filterMap] at h
  obtain ⟨ed, h1, h2⟩ := h
  split at h2
  · rename_i hb; simp at h2; exact ⟨ed, by simpa using h1, hb, h2⟩
  · cases h2
theorem isPre_step {ops : Array Oper} {o : Oper} {i j d f : Nat} (ho : ops[i]? = some o) (hd : d ∈ dirL o) (h : d = j ∨ isPre ops f j d = true) : isPre ops (f + 1) j i = true := by
  obtain ⟨ed, h1, h2, h3⟩ := dirL_spec hd
  rw [isPre, ho]
  simp only
  rw [← Array.any_toList, List.any_eq_true]
  refine ⟨ed, by simpa using h1, ?_⟩
  simp only [Bool.and_eq_true, Bool.or_eq_true, beq_iff_eq]
  exact ⟨h2, by rw [h3]; exact h⟩
theorem preL_spec {ops : Array Oper} : ∀ {l : List Oper} {acc : List (List Nat)}, (∀ (j : Nat) o, l[j]? = some o → ops[acc.length + j]? = some o) → (∀ i, i < acc.length → ∀ q ∈ acc.getD i [], ∃ f, isPre ops f q i = true) →
    ∀ i, i < acc.length + l.length → ∀ q ∈ (preL l acc).getD i [], ∃ f, isPre ops f q i = true
  | [], acc, _, h, i, hi, q, hq => h i (by simpa using hi) q hq
  | o :: r, acc, hl, h, i, hi, q, hq => by
    rw [preL] at hq
    refine preL_spec (l := r) (acc := acc ++ [_]) (fun j o' hj => ?_) (fun i' hi' q' hq' => ?_) i (by simp at hi ⊢; omega) q hq
    · have := hl (j + 1) o' (by simpa using hj)
      rw [List.length_append, List.length_singleton, Nat.add_assoc, Nat.add_comm 1 j]; exact this
    · simp only [List.length_append, List.length_singleton] at hi'
      by_cases h1 : i' < acc.length
      · rw [List.getD_eq_getElem?_getD, List.getElem?_append_left h1, ← List.getD_eq_getElem?_getD] at hq'
        exact h i' h1 q' hq'
      · have h2 : i' = acc.length := by omega
        subst h2
        rw [List.getD_eq_getElem?_getD, List.getElem?_append_right (Nat.le_refl _)] at hq'
        simp only [Nat.sub_self, List.getElem?_cons_zero, Option.getD_some] at hq'
        rw [List.mem_eraseDups, List.mem_append] at hq'
        have ho := hl 0 o rfl
        rw [Nat.add_zero] at ho
        rcases hq' with h3 | h3
        · exact ⟨1, isPre_step ho h3 (.inl rfl)⟩
        · rw [List.mem_flatMap] at h3
          obtain ⟨d, h4, h5⟩ := h3
          have hd : d < acc.length := by
            rcases Nat.lt_or_ge d acc.length with h' | h'
            · exact h'
            · simp [List.getD_eq_getElem?_getD, List.getElem?_eq_none h'] at h5
          obtain ⟨f, hf⟩ := h d hd q' h5
          exact ⟨f + 1, isPre_step ho h4 (.inr hf)⟩
theorem compROs_spec {ops : Array Oper} : ∀ {l : List Oper} {pre : List (List Nat)} {k : Nat} {rs : List RO}, compROs P ops N l pre = some rs → (∀ (j : Nat) o, l[j]? = some o → ops[k + j]? = some o) → (∀ j, j < l.length → ∀ q ∈ pre.getD j [], ∃ f, isPre ops f q (k + j) = true) →
    rs.length = l.length ∧ ∀ (j : Nat) r, rs[j]? = some r → Fits P ops N (k + j) r
  | [], pre, k, rs, h, _, _ => by simp [compROs] at h; subst h; simp
  | o :: l, pre, k, rs, h, hl, hp => by
    rw [compROs] at h
    split at h
    · rename_i x hx
      split at h
      · rename_i rs' hr
        simp at h
        subst h
        obtain ⟨e1, e2⟩ := compROs_spec (k := k + 1) hr (fun j o' hj => by have := hl (j + 1) o' (by simpa using hj); rwa [Nat.add_assoc, Nat.add_comm 1 j]) (fun j hj q hq => by
          have := hp (j + 1) (by simpa using hj) q (by cases pre <;> first | (simp at hq; done) | (simpa using hq))
          rwa [Nat.add_assoc, Nat.add_comm 1 j])
        refine ⟨by simp [e1], fun j r hj => ?_⟩
        cases j with
        | succ j => have := e2 j r (by simpa using hj); rwa [Nat.add_assoc, Nat.add_comm 1 j] at this
        | zero =>
          simp at hj
          subst hj
          unfold compRO at hx
          split at hx
          · rename_i ao hao
            split at hx
            · rename_i g hg
              split at hx
              · rename_i hd
                simp at hx
                subst hx
                refine ⟨o, hl 0 o rfl, hao, rfl, fun d hd' => ?_, hg, rfl, fun q hq => hp 0 (by simp) q (by cases pre <;> first | (simp at hq; done) | (simpa using hq))⟩
                rw [hd'] at hd
                simpa [dstOk] using hd
              · cases hx
            · cases hx
          · cases hx
      · cases h
    · cases h
theorem backOk_spec {l : List Oper} : ∀ {k : Nat}, backOk l k = true → ∀ (j : Nat) o, l[j]? = some o → ∀ ed ∈ o.after, Region.binds .any ed = true → ed.on < k + j := by
  induction l with
  | nil => intro k _ j o hj; simp at hj
  | cons o l ih =>
    intro k h j o' hj ed hm hb
    simp only [backOk, Bool.and_eq_true] at h
    cases j with
    | zero =>
      simp at hj
      subst hj
      have := h.1
      rw [← Array.all_toList, List.all_eq_true] at this
      have := this ed (by simpa using hm)
      rw [hb] at this
      simpa using this
    | succ j => have := ih h.2 j o' (by simpa using hj) ed hm hb; omega

def envOf : List (Nat × AV) → Nat → AV
  | [], _ => .any
  | (k, v) :: r, t => if t = k then v else envOf r t
theorem envOf_map (env : Nat → AV) (l : List Nat) (t : Nat) : envOf (l.map fun k => (k, env k)) t = env t ∨ envOf (l.map fun k => (k, env k)) t = .any := by
  induction l with
  | nil => exact .inr rfl
  | cons k l ih =>
    rw [List.map_cons, envOf]
    split
    · rename_i h; left; rw [h]
    · exact ih

abbrev No : Nat → Prop := fun _ => False
/-- a list of deferred calls that a range over a function has left: an empty one, in a new block -/
def Left (c c' : Cx) (d : Deferred) : Prop := ∃ D, d = { target := .collected D, args := #[] } ∧ c.w.heap.size ≤ D ∧ c'.w.heap[D]? = some (.deferred (some []))
/-- later, and what is left behind for the function's end -/
structure GoA (c : Cx) (a : Act) (c' : Cx) (a' : Act) : Prop where
  g : Grow c c'
  ds : ∃ l, a'.defers = l ++ a.defers ∧ l.Nodup ∧ ∀ d ∈ l, Left c c' d
theorem GoA.of {c c' : Cx} {a a' : Act} (g : Grow c c') (h : a'.defers = a.defers) : GoA c a c' a' := ⟨g, [], h, .nil, fun d hd => by cases hd⟩
theorem GoA.refl (c : Cx) (a : Act) : GoA c a c a := GoA.of (Grow.refl c) rfl
theorem HR.T_obj {c : Cx} (h : HR c) {b : Nat} (ht : c.T b) : (∃ cs e f, c.w.heap[b]? = some (Obj.cells cs e f)) ∨ ((∃ es cl, c.w.heap[b]? = some (Obj.map es cl)) ∧ ¬ NoM c.σ) := by
  obtain ⟨id, ⟨y, el, cells⟩, h3, h4⟩ := ht
  rcases h.row id y el cells h3 with ⟨h5, _⟩ | ⟨b', cs, h5, h6, _⟩
  · rw [h5] at h4; cases h4
  · rw [h5] at h4; cases h4
    rcases h6 with ⟨_, h6⟩ | ⟨h7, es, cl, h6, _⟩
    · exact .inl ⟨_, _, _, h6⟩
    · exact .inr ⟨⟨_, _, h6⟩, fun h => h id y el cells h3 h7⟩
theorem HR.T_cells {c : Cx} (h : HR c) (hm : NoM c.σ) {b : Nat} (ht : c.T b) : ∃ cs e f, c.w.heap[b]? = some (.cells cs e f) :=
  (h.T_obj ht).resolve_right fun h => h.2 hm
theorem Grow.keepLeft {c d : Cx} (h : HR c) (g : Grow c d) {D : Nat} (h1 : c.w.heap[D]? = some (.deferred (some []))) (hx : ¬ c.X D) : d.w.heap[D]? = some (.deferred (some [])) := by
  refine (g.stay D (Array.getElem?_eq_some_iff.1 h1).1 (fun ht => ?_) (fun h => absurd h hx)).trans h1
  rcases h.T_obj ht with ⟨cs, e, f, h2⟩ | ⟨⟨es, cl, h2⟩, _⟩ <;> (rw [h1] at h2; cases h2)
theorem GoA.trans {c c1 c2 : Cx} {a a1 a2 : Act} (h : GoA c a c1 a1) (h0 : HR c) (h1 : HR c1) (k : GoA c1 a1 c2 a2) : GoA c a c2 a2 := by
  obtain ⟨g, l, e1, e2, e3⟩ := h
  obtain ⟨g', l', f1, f2, f3⟩ := k
  refine ⟨g.trans g', l' ++ l, by rw [f1, e1, List.append_assoc], ?_, fun d hd => ?_⟩
  · rw [List.nodup_append]
    refine ⟨f2, e2, fun x hx y hy e => ?_⟩
    obtain ⟨D, p1, p2, p3⟩ := f3 x hx
    obtain ⟨D', q1, q2, q3⟩ := e3 y hy
    rw [e, q1] at p1
    have : D' = D := by simpa using p1
    have := (Array.getElem?_eq_some_iff.1 q3).1
    omega
  · rcases List.mem_append.1 hd with hd | hd
    · obtain ⟨D, p1, p2, p3⟩ := f3 d hd
      exact ⟨D, p1, Nat.le_trans g.size p2, p3⟩
    · obtain ⟨D, p1, p2, p3⟩ := e3 d hd
      refine ⟨D, p1, p2, g'.keepLeft h1 p3 (fun hx => ?_)⟩
      rw [g.X] at hx
      have := h0.xlt D hx
      omega
/-- Code, from what is known: it ends, and Q holds of how and of what is known then. Names below m stay where they are. -/
def AW (ro : Option Nat) (P : Program) (N m : Nat) (code : Code) (st : ASt) (Q : Exit → ASt → Prop) : Prop :=
  ∀ (n : Nat) (c : Cx) (a : Act), RelR N st.nx No c st a → m ≤ st.nx → code.wpIn (FR ro) n P (fun e a' w' => ∃ c' st', c'.w = w' ∧ GoA c a c' a' ∧ (∀ id, id < m → c'.φ id = c.φ id) ∧ RelR N st'.nx No c' st' a' ∧ m ≤ st'.nx ∧ Q e st') a c.w
def Weak (N m : Nat) (s s' : ASt) : Prop :=
  ∀ (c : Cx) (a : Act), RelR N s.nx No c s a → m ≤ s.nx → ∃ c', c'.w = c.w ∧ Grow c c' ∧ (∀ id, id < m → c'.φ id = c.φ id) ∧ RelR N s'.nx No c' s' a ∧ m ≤ s'.nx
theorem Weak.refl (s : ASt) : Weak N m s s := fun c _ h hm => ⟨c, rfl, Grow.refl c, fun _ _ => rfl, h, hm⟩
theorem Weak.trans {a b c : ASt} (h : Weak N m a b) (k : Weak N m b c) : Weak N m a c := fun x y hr hm => by
  obtain ⟨x1, e1, e2, e3, e4, e5⟩ := h x y hr hm
  obtain ⟨x2, f1, f2, f3, f4, f5⟩ := k x1 y e4 e5
  exact ⟨x2, f1.trans e1, e2.trans f2, fun id hid => (f3 id hid).trans (e3 id hid), f4, f5⟩
theorem AW.mono {code : Code} {st : ASt} {Q Q' : Exit → ASt → Prop} (h : AW ro P N m code st Q) (hq : ∀ e s, Q e s → Q' e s) : AW ro P N m code st Q' := fun n c a hr hm =>
  wpIn_mono (h n c a hr hm) fun e a' w' ⟨c', st', h1, h2, h3, h4, h5, h6⟩ => ⟨c', st', h1, h2, h3, h4, h5, hq _ _ h6⟩
theorem AW.weak {code : Code} {s s' : ASt} {Q : Exit → ASt → Prop} (hw : Weak N m s s') (h : AW ro P N m code s' Q) : AW ro P N m code s Q := fun n c a hr hm => by
  obtain ⟨c1, e1, e2, e3, e4, e5⟩ := hw c a hr hm
  rw [← e1]
  exact wpIn_mono (h n c1 a e4 e5) fun e a' w' ⟨c', st', h1, h2, h3, h4, h5, h6⟩ => ⟨c', st', h1, (GoA.of e2 rfl).trans hr.hr e4.hr h2, fun id hid => (h3 id hid).trans (e3 id hid), h4, h5, h6⟩
def seqK (Kn : ASt → Prop) (Q : Exit → ASt → Prop) : Exit → ASt → Prop
  | .normal, s => Kn s
  | e, s => Q e s
def blockK (id : Nat) (Q : Exit → ASt → Prop) : Exit → ASt → Prop
  | .exit id', s => if id' = id then Q .normal s else Q (.exit id') s
  | e, s => Q e s
theorem AW.seq {x y : Code} {st : ASt} {Q : Exit → ASt → Prop} (h : AW ro P N m x st (seqK (fun s => AW ro P N m y s Q) Q)) : AW ro P N m (.seq x y) st Q := fun n c a hr hm => by
  refine wpIn_seq (wpIn_mono (h n c a hr hm) ?_)
  rintro e a' w' ⟨c', st', rfl, h2, h3, h4, h5, h6⟩
  cases e with
  | normal => exact wpIn_mono (h6 n c' a' h4 h5) fun e a'' w'' ⟨c2, s2, k1, k2, k3, k4, k5, k6⟩ => ⟨c2, s2, k1, h2.trans hr.hr h4.hr k2, fun id hid => (k3 id hid).trans (h3 id hid), k4, k5, k6⟩
  | _ => exact ⟨c', st', rfl, h2, h3, h4, h5, h6⟩
theorem AW.block {x : Code} {id : Nat} {st : ASt} {Q : Exit → ASt → Prop} (h : AW ro P N m x st (blockK id Q)) : AW ro P N m (.block id x) st Q := fun n c a hr hm => by
  refine wpIn_block (wpIn_mono (h n c a hr hm) ?_)
  rintro e a' w' ⟨c', st', rfl, h2, h3, h4, h5, h6⟩
  cases e with
  | exit id' =>
    simp only [Exit.inBlock]
    simp only [blockK] at h6
    split
    · rename_i he; rw [if_pos he] at h6; exact ⟨c', st', rfl, h2, h3, h4, h5, h6⟩
    · rename_i he; rw [if_neg he] at h6; exact ⟨c', st', rfl, h2, h3, h4, h5, h6⟩
  | _ => exact ⟨c', st', rfl, h2, h3, h4, h5, h6⟩
theorem AW.now {st : ASt} {Q : Exit → ASt → Prop} {e : Exit} {code : Code} (hw : ∀ (n : Nat) (R : Exit → Act → World → Prop) a w, R e a w → code.wpIn (FR ro) n P R a w) (h : Q e st) : AW ro P N m code st Q := fun n c a hr hm => hw n _ _ _ ⟨c, st, rfl, GoA.refl c a, fun _ _ => rfl, hr, hm, h⟩
theorem AW.cond {x y : Code} {o : Operand} {st : ASt} {Q : Exit → ASt → Prop} {t : Bool} (ho : evA st.env o = .v (.bool t)) (h1 : t = true → AW ro P N m x st Q) (h2 : t = false → AW ro P N m y st Q) : AW ro P N m (.cond o x y) st Q := fun n c a hr hm => by
  have hv := hr.eval o
  rw [ho] at hv
  exact wpIn_cond_split (t := t) hv (fun ht => h1 ht n c a hr hm) (fun ht => h2 ht n c a hr hm)
theorem AW.loop {x : Code} {st : ASt} {Q : Exit → ASt → Prop} (Inv : Nat → ASt → Prop) (n : Nat) (h0 : ∃ s', Weak N m st s' ∧ Inv n s') (hr : ∀ n s, Inv n s → AW ro P N m x s (seqK (fun s' => ∃ k, k < n ∧ ∃ s'', Weak N m s' s'' ∧ Inv k s'') Q)) : AW ro P N m (.loop x) st Q := fun rm c a hrel hm => by
  obtain ⟨s', hw, hi⟩ := h0
  obtain ⟨c1, e1, e2, e3, e4, e5⟩ := hw c a hrel hm
  rw [← e1]
  refine wpIn_loop_ghost (fun n a1 w => ∃ c2 s, c2.w = w ∧ GoA c a c2 a1 ∧ (∀ id, id < m → c2.φ id = c.φ id) ∧ RelR N s.nx No c2 s a1 ∧ m ≤ s.nx ∧ Inv n s) n ⟨c1, s', rfl, GoA.of e2 rfl, e3, e4, e5, hi⟩ ?_
  rintro n a1 w ⟨c2, s, rfl, k1, k2, k3, k4, k5⟩
  refine wpIn_mono (hr n s k5 rm c2 a1 k3 k4) ?_
  rintro e a' w' ⟨c3, s3, rfl, f2, f3, f4, f5, f6⟩
  have pin : ∀ id, id < m → c3.φ id = c.φ id := fun id hid => (f3 id hid).trans (k2 id hid)
  cases e with
  | normal =>
    obtain ⟨k, hk, s4, hw, hi⟩ := f6
    obtain ⟨c4, g1, g2, g3, g4, g5⟩ := hw c3 a' f4 f5
    exact ⟨k, hk, c4, s4, g1, (k1.trans hrel.hr k3.hr f2).trans hrel.hr f4.hr (GoA.of g2 rfl), fun id hid => (g3 id hid).trans (pin id hid), g4, g5, hi⟩
  | _ => exact ⟨c3, s3, rfl, k1.trans hrel.hr k3.hr f2, pin, f4, f5, f6⟩

theorem RelR.close {k nx : Nat} {c : Cx} {s : ASt} {a : Act} (h : RelR N nx (fun j => j < k) c s a) (env' : Nat → AV) (he : ∀ t, env' t = s.env t ∨ env' t = .any) : RelR N (nx + 100000 * k) No c ⟨env', s.σ, nx + 100000 * k⟩ a := by
  refine ⟨h.size, fun t => ?_, h.hr, h.σ, fun id hid hne => ?_⟩
  · simp only
    rcases he t with e | e
    · rw [e]; exact h.env t
    · rw [e]; trivial
  · obtain ⟨j, h1, h2, h3⟩ := h.fresh id (by omega) hne
    omega
theorem AW.reg {id : Nat} {ops : Array Oper} {draw : Bool} {rs : List RO} {keep : List Nat} {st : ASt} {Q : Exit → ASt → Prop} (hc : compCode P N (.region id ops draw) = some (.reg draw rs []))
    (h : runL P st.nx rs 0 st [] fun s fs => (draw = true → fsOK fs = true) ∧ Q .normal ⟨envOf (keep.map fun k => (k, s.env k)), s.σ, st.nx + 100000 * rs.length⟩) : AW ro P N m (.region id ops draw) st Q := fun n c a hr hm => by
  have hr0 : RelR N st.nx (fun j => j < 0) c st a := ⟨hr.size, hr.env, hr.hr, hr.σ, fun id h1 h2 => by obtain ⟨j, h3, _⟩ := hr.fresh id h1 h2; exact h3.elim⟩
  unfold compCode at hc
  split at hc
  · rename_i hd
    subst hd
    split at hc
    · rename_i hb
      split at hc
      · rename_i l hl
        have hl0 : l = rs := by simpa using hc
        rw [hl0] at hl
        obtain ⟨e1, e2⟩ := compROs_spec (k := 0) hl (fun j o hj => by simpa using hj) (fun j hj q hq => by
          rw [Nat.zero_add]
          exact preL_spec (ops := ops) (l := ops.toList) (acc := []) (fun j o hj => by simpa using hj) (fun i hi => absurd hi (by simp)) j (by simpa using hj) q hq)
        obtain ⟨tr, f, t1, t2, t3, t4, t5⟩ := runL_trace e2 h
        rw [List.append_nil] at t4
        have hlen : tr.length = ops.size := by rw [t1, e1]; simp
        have hok : ∀ e ∈ tr, ops[e.i]? = some e.o := by
          have : ∀ {tr : List TE} {s f : ASt}, Chain P ops N st.nx tr s f → ∀ e ∈ tr, ops[e.i]? = some e.o := by
            intro tr
            induction tr with
            | nil => intro s f _ e he; cases he
            | cons x tr ih =>
              intro s f hch e he
              rcases List.mem_cons.1 he with rfl | he
              · exact hch.1.1
              · exact ih hch.2 e he
          exact this t3
        have T := Then.drew hr.hr st.nx
        have hr1 : RelR N st.nx (fun j => (Array.replicate ops.size false).getD j false = true) ⟨c.w.drew, c.B, c.φ, c.σ, c.X, c.Y⟩ st a := ⟨hr.size, fun t => (hr.env t).mono T.grow T.names, T.hr, hr.σ, fun id h1 h2 => by obtain ⟨j, h3, _⟩ := hr.fresh id h1 h2; exact h3.elim⟩
        refine wpIn_region_any hb.2 ?_
        have hnone : ∀ i, (Array.replicate ops.size false).getD i true = true → ¬ i < ops.size := by
          intro i h9 hi
          simp [hi] at h9
        refine any_trace (f := f) (fun i o ho ed hm hb' => by have := backOk_spec hb.1 i o (by simpa using ho) ed hm hb'; omega) tr.length tr ops.size (Array.replicate ops.size false) st ⟨c.w.drew, c.B, c.φ, c.σ, c.X, c.Y⟩ a rfl (by omega) (by simp) ?_ ?_ ?_ ?_ ?_ t3 hr1 ?_
        · intro j o ho hl' 
          exact absurd (Array.getElem?_eq_some_iff.1 ho).1 (hnone j hl')
        · intro i hi
          constructor
          · intro _
            exact ⟨tr[i], by simp, by have := t2 i tr[i] (by simp); omega⟩
          · intro _; simp [hi]
        · rw [List.pairwise_iff_getElem]
          intro i j hi hj hij
          simp at hi hj
          have h1 := t2 i tr[i] (by simp)
          have h2 := t2 j tr[j] (by simp)
          simp only [List.getElem_map]
          omega
        · intro e he
          exact (Array.getElem?_eq_some_iff.1 (hok e he)).1
        · exact fsOK_pairwise t1 t2 e2 hok (t4.1 rfl)
        · intro c' a' hl' hd' hr'
          have hsz : ops.size = rs.length := by rw [e1]; simp
          refine ⟨c', _, rfl, GoA.of (T.grow.trans hl'.grow) hd', fun id hid => hl'.low id (by omega), ?_, ?_, t4.2⟩
          · rw [← hsz]; exact hr'.close _ (fun t => envOf_map _ _ _)
          · show m ≤ st.nx + 100000 * rs.length; omega
      · cases hc
    · cases hc
  · rename_i hd
    have hd : draw = false := by simpa using hd
    subst hd
    split at hc
    · rename_i l hl
      have hl0 : l = rs := by simpa using hc
      rw [hl0] at hl
      obtain ⟨e1, e2⟩ := compROs_spec (k := 0) hl (fun j o hj => by simpa using hj) (fun j hj q hq => by simp at hq)
      obtain ⟨tr, f, t1, t2, t3, t4, t5⟩ := runL_trace e2 h
      have hlen : tr.length = ops.size := by rw [t1, e1]; simp
      refine wpIn_region ?_
      rw [List.range_eq_range', ← hlen]
      refine text_trace tr 0 st c a (by omega) t2 t3 hr0 (fun c' a' hl' hd' hr' => ?_)
      have hsz : ops.size = rs.length := by rw [e1]; simp
      refine ⟨c', _, rfl, GoA.of hl'.grow hd', fun id hid => hl'.low id (by omega), ?_, ?_, t4.2⟩
      · rw [← hsz]; exact hr'.close _ (fun t => envOf_map _ _ _)
      · show m ≤ st.nx + 100000 * rs.length; omega
    · cases hc
end Go.Proofs.YtonglhkiobibgaaGreatDoor
namespace Go.Proofs.YtonglhkiobibgaaGreatDoor
open Go.RowKit
variable {P : Program} {N m : Nat}

mutual
/-- all names inside are p's -/
def Al (p : Nat → Prop) : AV → Prop
  | .any | .v _ | .ws _ _ | .wp _ | .wv _ => True
  | .fs _ cs _ | .fp _ cs _ | .agg cs | .tup cs | .fn _ cs | .us _ _ cs _ => AlL p cs
  | .ifc _ a => Al p a
  | .os id _ _ _ | .op id _ | .mp id => p id
def AlL (p : Nat → Prop) : List AV → Prop
  | [] => True
  | a :: r => Al p a ∧ AlL p r
end
mutual
def ren (ρ : Nat → Nat) : AV → AV
  | .any => .any
  | .v x => .v x
  | .fs fr cs n => .fs fr (renL ρ cs) n
  | .fp fr cs n => .fp fr (renL ρ cs) n
  | .agg l => .agg (renL ρ l)
  | .tup l => .tup (renL ρ l)
  | .fn f l => .fn f (renL ρ l)
  | .os id off n sz => .os (ρ id) off n sz
  | .op id off => .op (ρ id) off
  | .mp id => .mp (ρ id)
  | .ws k n => .ws k n
  | .wp k => .wp k
  | .wv k => .wv k
  | .us fr e cs n => .us fr e (renL ρ cs) n
  | .ifc t a => .ifc t (ren ρ a)
def renL (ρ : Nat → Nat) : List AV → List AV
  | [] => []
  | a :: r => ren ρ a :: renL ρ r
end
theorem AlL_iff {p : Nat → Prop} : ∀ {l : List AV}, AlL p l ↔ ∀ a ∈ l, Al p a
  | [] => by simp [AlL]
  | a :: r => by rw [AlL, AlL_iff (l := r)]; simp
theorem renL_map {ρ : Nat → Nat} : ∀ {l : List AV}, renL ρ l = l.map (ren ρ)
  | [] => rfl
  | a :: r => by rw [renL, renL_map (l := r)]; rfl
mutual
theorem ren_id {p : Nat → Prop} {ρ : Nat → Nat} (h : ∀ i, p i → ρ i = i) : ∀ {a : AV}, Al p a → ren ρ a = a
  | .any, _ | .v _, _ | .ws _ _, _ | .wp _, _ | .wv _, _ => rfl
  | .fs fr cs n, k | .fp fr cs n, k | .us fr e cs n, k => by rw [ren, renL_id h k]
  | .agg l, k | .tup l, k | .fn f l, k => by rw [ren, renL_id h k]
  | .os id off n sz, k | .op id off, k | .mp id, k => by rw [ren, h id k]
  | .ifc t a, k => by rw [ren, ren_id (a := a) h k]
theorem renL_id {p : Nat → Prop} {ρ : Nat → Nat} (h : ∀ i, p i → ρ i = i) : ∀ {l : List AV}, AlL p l → renL ρ l = l
  | [], _ => rfl
  | a :: r, k => by rw [renL, ren_id h k.1, renL_id h k.2]
end
mutual
theorem Al.mono {p q : Nat → Prop} (h : ∀ i, p i → q i) : ∀ {a : AV}, Al p a → Al q a
  | .any, _ | .v _, _ | .ws _ _, _ | .wp _, _ | .wv _, _ => trivial
  | .fs fr cs n, k | .fp fr cs n, k | .us fr e cs n, k => AlL.mono h k
  | .agg l, k | .tup l, k | .fn f l, k => AlL.mono h k
  | .os id off n sz, k | .op id off, k | .mp id, k => h id k
  | .ifc t a, k => Al.mono h (a := a) k
theorem AlL.mono {p q : Nat → Prop} (h : ∀ i, p i → q i) : ∀ {l : List AV}, AlL p l → AlL q l
  | [], _ => trivial
  | a :: r, k => ⟨Al.mono h k.1, AlL.mono h k.2⟩
end
/-- nothing but data inside -/
abbrev Pu (a : AV) : Prop := Al (fun _ => False) a
abbrev PuL (l : List AV) : Prop := AlL (fun _ => False) l

/-- the same memory, other names -/
structure Alike (p : Nat → Prop) (ρ : Nat → Nat) (c d : Cx) : Prop where
  w : d.w = c.w
  names : ∀ i x, p i → c.φ i = some x → d.φ (ρ i) = some x
  ok : ∀ fr b, b < c.w.heap.size → c.ok fr b → d.ok fr b
  wok : ∀ k b n, c.wok k b n → d.wok k b n
mutual
theorem VR.ren {p : Nat → Prop} {ρ : Nat → Nat} {c d : Cx} (h : Alike p ρ c d) : ∀ {a : AV} {u : Value}, Al p a → VR c a u → VR d (ren ρ a) u
  | .any, u, _, _ => trivial
  | .v x, u, _, k => k
  | .fs fr cs n, u, q, k => by
    obtain ⟨A, k', rfl, hk, hm⟩ := k
    refine ⟨A, k', rfl, hk, fun h0 => ?_⟩
    obtain ⟨b, off, rfl, e1, e2, e3⟩ := hm h0
    exact ⟨b, off, rfl, by rw [h.w]; exact e1, h.ok fr b e1 e2, VRm.ren h q e3⟩
  | .fp fr cs n, u, q, k => by
    obtain ⟨b, off, rfl, e1, e2, e3⟩ := k
    exact ⟨b, off, rfl, by rw [h.w]; exact e1, h.ok fr b e1 e2, VRm.ren h q e3⟩
  | .os id off n sz, u, q, k => by
    obtain ⟨A, k', rfl, hk, hm⟩ := k
    refine ⟨A, k', rfl, hk, ?_⟩
    rcases hm with ⟨h1, h2⟩ | ⟨b, h1, rfl, cs, e, f, h2, h3⟩
    · obtain ⟨x, hx⟩ := Option.ne_none_iff_exists'.1 h1
      exact .inl ⟨by rw [h.names _ _ q hx]; simp, h2⟩
    · exact .inr ⟨b, h.names _ _ q h1, rfl, cs, e, f, by rw [h.w]; exact h2, h3⟩
  | .op id off, u, q, k => by
    obtain ⟨b, h1, rfl, h2⟩ := k
    exact ⟨b, h.names _ _ q h1, rfl, by rw [h.w]; exact h2⟩
  | .mp id, u, q, k => by
    obtain ⟨b, h1, rfl⟩ := k
    exact ⟨b, h.names _ _ q h1, rfl⟩
  | .agg l, u, q, k => by obtain ⟨us, rfl, k⟩ := k; exact ⟨us, rfl, VRl.ren h q k⟩
  | .tup l, u, q, k => by obtain ⟨us, rfl, k⟩ := k; exact ⟨us, rfl, VRt.ren h q k⟩
  | .fn f l, u, q, k => by obtain ⟨us, rfl, k⟩ := k; exact ⟨us, rfl, VRt.ren h q k⟩
  | .ws k n, u, _, hv => by
    obtain ⟨A, q, rfl, hk, hc⟩ := hv
    refine ⟨A, q, rfl, hk, fun hne => ?_⟩
    obtain ⟨b, off, rfl, hw⟩ := hc hne
    exact ⟨b, off, rfl, h.wok _ _ _ hw⟩
  | .wp k, u, _, hv => by
    obtain ⟨b, off, rfl, hw⟩ := hv
    exact ⟨b, off, rfl, h.wok _ _ _ hw⟩
  | .wv k, u, _, hv => hv
  | .us fr e cs n, u, q, k => by
    obtain ⟨A, k', rfl, hk, hm⟩ := k
    refine ⟨A, k', rfl, hk, fun h0 => ?_⟩
    obtain ⟨b, rfl, e2, ⟨vs, e1⟩, e3⟩ := hm h0
    exact ⟨b, rfl, h.ok fr b (Array.getElem?_eq_some_iff.1 e1).1 e2, ⟨vs, by rw [h.w]; exact e1⟩, VRm.ren h q e3⟩
  | .ifc t a, u, q, k => by obtain ⟨v, rfl, k⟩ := k; exact ⟨v, rfl, VR.ren h (a := a) q k⟩
theorem VRm.ren {p : Nat → Prop} {ρ : Nat → Nat} {c d : Cx} (h : Alike p ρ c d) {b : Nat} : ∀ {cs : List AV} {off : Nat}, AlL p cs → VRm c b off cs → VRm d b off (renL ρ cs)
  | [], _, _, _ => trivial
  | a :: r, off, q, k => by
    rw [VRm] at k
    rw [renL, VRm]
    obtain ⟨⟨u, h1, h2, h3⟩, h4⟩ := k
    exact ⟨⟨u, by rw [h.w]; exact h1, h2, VR.ren h q.1 h3⟩, VRm.ren h q.2 h4⟩
theorem VRl.ren {p : Nat → Prop} {ρ : Nat → Nat} {c d : Cx} (h : Alike p ρ c d) : ∀ {cs : List AV} {us : List Value}, AlL p cs → VRl c cs us → VRl d (renL ρ cs) us
  | [], _, _, k => k
  | a :: r, us, q, k => by
    rw [VRl] at k
    rw [renL, VRl]
    obtain ⟨u, us', rfl, h1, h2, h3⟩ := k
    exact ⟨u, us', rfl, h1, VR.ren h q.1 h2, VRl.ren h q.2 h3⟩
theorem VRt.ren {p : Nat → Prop} {ρ : Nat → Nat} {c d : Cx} (h : Alike p ρ c d) : ∀ {cs : List AV} {us : List Value}, AlL p cs → VRt c cs us → VRt d (renL ρ cs) us
  | [], _, _, k => k
  | a :: r, us, q, k => by
    rw [VRt] at k
    rw [renL, VRt]
    obtain ⟨u, us', rfl, h2, h3⟩ := k
    exact ⟨u, us', rfl, VR.ren h q.1 h2, VRt.ren h q.2 h3⟩
end

def AWc (P : Program) (N m : Nat) (ac : AC) (st : ASt) (Q : Exit → ASt → Prop) : Prop := ∀ code, compCode P N code = some ac.forget → ∀ ro, (ro = none ∨ ac.flat = true) → AW ro P N m code st Q
def condK (a : AV) (x y : Prop) : Prop :=
  match a with
  | .v (.bool t) => (t = true → x) ∧ (t = false → y)
  | _ => False
def wpC (P : Program) (N m : Nat) : AC → ASt → (Exit → ASt → Prop) → Prop
  | .skip, st, Q => Q .normal st
  | .reg d rs keep, st, Q => runL P st.nx rs 0 st [] fun s fs => (d = true → fsOK fs = true) ∧ Q .normal ⟨envOf (keep.map fun k => (k, s.env k)), s.σ, st.nx + 100000 * rs.length⟩
  | .seq a b, st, Q => wpC P N m a st (seqK (fun s => wpC P N m b s Q) Q)
  | .cond c a b, st, Q => condK (evA st.env c) (wpC P N m a st Q) (wpC P N m b st Q)
  | .block id b, st, Q => wpC P N m b st (blockK id Q)
  | .loop b, st, Q => AWc P N m (.loop b) st Q
  | .exit id, st, Q => Q (.exit id) st
  | .ret, st, Q => Q .ret st
  | .weak b, st, Q => ∃ st', Weak N m st st' ∧ wpC P N m b st' Q
  | .rfunc g ps mv b, st, Q => AWc P N m (.rfunc g ps mv b) st Q
  | .rfuncC g ps a b, st, Q => AWc P N m (.rfuncC g ps a b) st Q
theorem comp_seq {code : Code} {a b : AC} (h : compCode P N code = some (.seq a b)) : ∃ x y, code = .seq x y ∧ compCode P N x = some a ∧ compCode P N y = some b := by
  unfold compCode at h
  split at h <;> try ((repeat' split at h) <;> cases h; done)
  rename_i x y
  split at h
  · rename_i a' ha
    split at h
    · rename_i b' hb
      cases h
      exact ⟨x, y, rfl, ha, hb⟩
    · cases h
  · cases h
theorem comp_cond {code : Code} {c : Operand} {a b : AC} (h : compCode P N code = some (.cond c a b)) : ∃ x y, code = .cond c x y ∧ compCode P N x = some a ∧ compCode P N y = some b := by
  unfold compCode at h
  split at h <;> try ((repeat' split at h) <;> cases h; done)
  rename_i c' x y
  split at h
  · rename_i a' ha
    split at h
    · rename_i b' hb
      cases h
      exact ⟨x, y, rfl, ha, hb⟩
    · cases h
  · cases h
theorem comp_block {code : Code} {id : Nat} {b : AC} (h : compCode P N code = some (.block id b)) : ∃ x, code = .block id x ∧ compCode P N x = some b := by
  unfold compCode at h
  split at h <;> try ((repeat' split at h) <;> cases h; done)
  rename_i id' x
  split at h
  · rename_i a' ha
    cases h
    exact ⟨x, rfl, ha⟩
  · cases h
theorem comp_loop {code : Code} {b : AC} (h : compCode P N code = some (.loop b)) : ∃ x, code = .loop x ∧ compCode P N x = some b := by
  unfold compCode at h
  split at h <;> try ((repeat' split at h) <;> cases h; done)
  rename_i x
  split at h
  · rename_i a' ha
    cases h
    exact ⟨x, rfl, ha⟩
  · cases h
theorem comp_skip {code : Code} (h : compCode P N code = some .skip) : code = .skip := by
  unfold compCode at h
  split at h <;> first | rfl | ((repeat' split at h) <;> cases h)
theorem comp_ret {code : Code} (h : compCode P N code = some .ret) : code = .ret := by
  unfold compCode at h
  split at h <;> first | rfl | ((repeat' split at h) <;> cases h)
theorem comp_exit {code : Code} {id : Nat} (h : compCode P N code = some (.exit id)) : code = .exit id := by
  unfold compCode at h
  split at h <;> first | (cases h; rfl) | ((repeat' split at h) <;> cases h)
theorem comp_reg {code : Code} {d : Bool} {rs : List RO} (h : compCode P N code = some (.reg d rs [])) : ∃ id ops, code = .region id ops d := by
  unfold compCode at h
  split at h <;> try ((repeat' split at h) <;> cases h; done)
  rename_i id ops draw
  refine ⟨id, ops, ?_⟩
  (repeat' split at h) <;> cases h <;> simp_all
theorem comp_rfunc {code : Code} {g : Operand} {ps : List Nat} {mv : List (Nat × Operand)} {b : AC} (h : compCode P N code = some (.rfunc g ps mv b)) :
    ∃ pa asg x, code = .rangeFunc g pa asg x ∧ pa.toList = ps ∧ compMv asg = some mv ∧ compCode P N x = some b ∧ (∀ p ∈ ps, p < N) ∧ ∀ q ∈ mv, q.1 < N := by
  unfold compCode at h
  split at h <;> try ((repeat' split at h) <;> cases h; done)
  rename_i g' pa asg x
  split at h
  · rename_i mv' hm
    split at h
    · rename_i x' hx
      split at h
      · rename_i hc
        cases h
        simp only [Bool.and_eq_true, List.all_eq_true, decide_eq_true_eq] at hc
        exact ⟨pa, asg, x, rfl, rfl, hm, hx, hc.1, hc.2⟩
      · cases h
    · cases h
  · (repeat' split at h) <;> cases h
theorem wpC_sound : ∀ {ac : AC} {st : ASt} {Q : Exit → ASt → Prop}, wpC P N m ac st Q → AWc P N m ac st Q
  | .skip, st, Q, h, code, hc, ro, _ => by rw [comp_skip hc]; exact AW.now (e := .normal) (fun n R a w h => wpIn_skip h) h
  | .exit id, st, Q, h, code, hc, ro, _ => by rw [comp_exit hc]; exact AW.now (e := .exit id) (fun n R a w h => wpIn_exit h) h
  | .ret, st, Q, h, code, hc, ro, _ => by rw [comp_ret hc]; exact AW.now (e := .ret) (fun n R a w h => wpIn_ret h) h
  | .reg d rs keep, st, Q, h, code, hc, ro, _ => by
    obtain ⟨id, ops, rfl⟩ := comp_reg hc
    exact AW.reg (keep := keep) hc h
  | .seq a b, st, Q, h, code, hc, ro, hro => by
    obtain ⟨x, y, rfl, ha, hb⟩ := comp_seq hc
    have hr : ro = none ∨ (a.flat = true ∧ b.flat = true) := hro.imp id fun h => by simpa [AC.flat] using h
    refine AW.seq (AW.mono (wpC_sound (ac := a) h x ha ro (hr.imp id (·.1))) fun e s hq => ?_)
    cases e with
    | normal => exact wpC_sound (ac := b) hq y hb ro (hr.imp id (·.2))
    | _ => exact hq
  | .cond c a b, st, Q, h, code, hc, ro, hro => by
    obtain ⟨x, y, rfl, ha, hb⟩ := comp_cond hc
    have hr : ro = none ∨ (a.flat = true ∧ b.flat = true) := hro.imp id fun h => by simpa [AC.flat] using h
    rw [wpC] at h
    unfold condK at h
    split at h
    · rename_i t ht
      exact AW.cond ht (fun e => wpC_sound (ac := a) (h.1 e) x ha ro (hr.imp id (·.1))) (fun e => wpC_sound (ac := b) (h.2 e) y hb ro (hr.imp id (·.2)))
    · exact h.elim
  | .block id b, st, Q, h, code, hc, ro, hro => by
    obtain ⟨x, rfl, hb⟩ := comp_block hc
    exact AW.block (wpC_sound (ac := b) h x hb ro hro)
  | .loop b, st, Q, h, code, hc, ro, hro => h code hc ro hro
  | .rfunc g ps mv b, st, Q, h, code, hc, ro, hro => h code hc ro hro
  | .rfuncC g ps a b, st, Q, h, code, hc, ro, hro => h code hc ro hro
  | .weak b, st, Q, ⟨st', h1, h2⟩, code, hc, ro, hro => AW.weak h1 (wpC_sound (ac := b) h2 code hc ro hro)
theorem AWc.loop {b : AC} {st : ASt} {Q : Exit → ASt → Prop} (Inv : Nat → ASt → Prop) (n : Nat) (h0 : ∃ s', Weak N m st s' ∧ Inv n s') (hr : ∀ n s, Inv n s → wpC P N m b s (seqK (fun s' => ∃ k, k < n ∧ ∃ s'', Weak N m s' s'' ∧ Inv k s'') Q)) : AWc P N m (.loop b) st Q := by
  intro code hc ro hro
  obtain ⟨x, rfl, hb⟩ := comp_loop hc
  exact AW.loop Inv n h0 fun n s hi => wpC_sound (hr n s hi) x hb ro hro
theorem AWc.mono {ac : AC} {st : ASt} {Q Q' : Exit → ASt → Prop} (h : AWc P N m ac st Q) (hq : ∀ e s, Q e s → Q' e s) : AWc P N m ac st Q' := fun code hc ro hro => (h code hc ro hro).mono hq
theorem AWc.weak {ac : AC} {s s' : ASt} {Q : Exit → ASt → Prop} (hw : Weak N m s s') (h : AWc P N m ac s' Q) : AWc P N m ac s Q := fun code hc ro hro => (h code hc ro hro).weak hw

/-- what a function hands back: a slot, or a variable's cells -/
inductive RV where
  | tmp (t : Nat)
  | cell (a : Nat) (ag : Bool) (n : Nat)
def compRes (P : Program) : List ResultVar → Option (List RV)
  | [] => some []
  | .tmp t :: r => match compRes P r with
    | some l => some (.tmp t :: l)
    | none => none
  | .cell a t :: r => match P.info? t with
    | some i => match P.underlying t with
      | some d => match compRes P r with
        | some l => some (.cell a d.isRow i.size :: l)
        | none => none
      | none => none
    | none => none
def resOne (st : ASt) : RV → Option AV
  | .tmp t => some (st.env t)
  | .cell a ag n => match st.env a with
    | .op id off => match st.σ id with
      | some (.row _ _ cells) => if ag = true then (match getN cells off n with | some l => some (.agg l) | none => none) else cells[off]?
      | none => none
    | _ => none
def resL (st : ASt) : List RV → Option (List AV)
  | [] => some []
  | x :: r => match resOne st x with
    | some a => match resL st r with
      | some l => some (a :: l)
      | none => none
    | none => none
def tupOf : List AV → AV
  | [x] => x
  | l => .tup l
def resFn (tmps : Array Value) : ResultVar → Sem Value
  | .tmp t => pure (tmps.getD t undef)
  | .cell b t => do loadVar t (← asAddr (tmps.getD b undef))
theorem results_eq (fn : Func) (tmps : Array Value) : results fn tmps = (do let vs ← fn.results.mapM (resFn tmps); pure (if h : vs.size = 1 then vs[0] else .tuple vs)) := rfl
theorem resOne_run {st : ASt} {c : Cx} {a : Act} {done : Nat → Prop} {nx : Nat} (h : RelR N nx done c st a) {v : ResultVar} {x : RV} {r : AV} (hx : compRes P [v] = some [x]) (hr : resOne st x = some r) :
    ∃ u, (resFn a.tmps v).run P c.w = .ok u c.w ∧ VR c r u := by
  cases v with
  | tmp t =>
    simp [compRes] at hx
    subst hx
    simp [resOne] at hr
    subst hr
    exact ⟨_, rfl, h.env t⟩
  | cell b t =>
    simp only [compRes] at hx
    split at hx
    · rename_i i hi
      split at hx
      · rename_i d hd
        simp at hx
        subst hx
        simp only [resOne] at hr
        split at hr
        · rename_i id off ho
          split at hr
          · rename_i y e cells hs
            have hb := h.env b
            rw [ho] at hb
            obtain ⟨bl, hφ, hu, hcl⟩ := hb
            obtain ⟨cs, _, _, _, hm⟩ := h.hr.cells (by rw [h.σ]; exact hs) hφ hcl
            simp only [resFn, hu, asAddr, Sem.run_bind, Sem.run_pure, Result.andThen_ok]
            split at hr
            · rename_i hag
              split at hr
              · rename_i l hl
                simp at hr
                subst hr
                obtain ⟨us, e1, e2, e3⟩ := range_of hm hl
                rw [Nat.zero_add] at e2
                exact ⟨_, run_loadVar_all hd hag hi e2 e1, us, rfl, e3⟩
              · cases hr
            · rename_i hag
              obtain ⟨u, e1, e2, e3⟩ := hm _ _ hr
              rw [Nat.zero_add] at e1
              exact ⟨u, run_loadVar_one hd (by simpa using hag) e1, e3⟩
          · cases hr
        · cases hr
      · cases hx
    · cases hx
theorem compRes_cons {v : ResultVar} {r : List ResultVar} {l : List RV} (h : compRes P (v :: r) = some l) : ∃ x l', l = x :: l' ∧ compRes P [v] = some [x] ∧ compRes P r = some l' := by
  cases v with
  | tmp t =>
    simp only [compRes] at h
    split at h
    · rename_i l' hl
      simp at h
      exact ⟨_, l', h.symm, by simp [compRes], hl⟩
    · cases h
  | cell a t =>
    simp only [compRes] at h
    split at h
    · rename_i i hi
      split at h
      · rename_i d hd
        split at h
        · rename_i l' hl
          simp at h
          exact ⟨_, l', h.symm, by simp [compRes, hi, hd], hl⟩
        · cases h
      · cases h
    · cases h
theorem resL_run {st : ASt} {c : Cx} {a : Act} {done : Nat → Prop} {nx : Nat} (h : RelR N nx done c st a) : ∀ {vs : List ResultVar} {xs : List RV} {l : List AV}, compRes P vs = some xs → resL st xs = some l →
    ∃ us, (vs.mapM (resFn a.tmps)).run P c.w = .ok us c.w ∧ VRt c l us
  | [], xs, l, hx, hr => by simp [compRes] at hx; subst hx; simp [resL] at hr; subst hr; exact ⟨[], rfl, rfl⟩
  | v :: vs, xs, l, hx, hr => by
    obtain ⟨x, xs', rfl, h1, h2⟩ := compRes_cons hx
    rw [resL] at hr
    split at hr
    · rename_i r hr1
      split at hr
      · rename_i l' hl'
        simp at hr
        subst hr
        obtain ⟨u, e1, e2⟩ := resOne_run h h1 hr1
        obtain ⟨us, e3, e4⟩ := resL_run h h2 hl'
        refine ⟨u :: us, ?_, u, us, rfl, e2, e4⟩
        rw [List.mapM_cons, Sem.run_bind, e1, Result.andThen_ok, Sem.run_bind, e3]
        rfl
      · cases hr
    · cases hr
theorem results_run {fn : Func} {st : ASt} {c : Cx} {a : Act} {done : Nat → Prop} {nx : Nat} (h : RelR N nx done c st a) {xs : List RV} {l : List AV} (hx : compRes P fn.results.toList = some xs) (hr : resL st xs = some l) :
    ∃ u, (results fn a.tmps).run P c.w = .ok u c.w ∧ VR c (tupOf l) u := by
  obtain ⟨us, e1, e2⟩ := resL_run h hx hr
  rw [results_eq, Sem.run_bind, Array.mapM_eq_mapM_toList, Sem.run_map, e1]
  simp only [Result.andThen_ok, Sem.run_pure]
  refine ⟨_, rfl, ?_⟩
  have hl := (VRt_iff.1 e2).1
  match l, us, hl, e2 with
  | [x], [u], _, e2 =>
    obtain ⟨u', us', h1, h2, _⟩ := e2
    cases h1
    exact h2
  | [], [], _, e2 => exact ⟨[], rfl, e2⟩
  | x :: y :: r, u :: v :: s, _, e2 =>
    simp only [tupOf]
    rw [dif_neg (by simp)]
    exact ⟨_, rfl, e2⟩
theorem leave_left {c c' : Cx} {fn : Func} {tmps : Array Value} {R : Ending → World → Prop} {F : Fence} {n : Nat} (hK : ∀ W2, Side c.w.heap.size c' W2 → ∃ v, (results fn tmps).run P W2 = .ok v W2 ∧ R (.returned v) W2) :
    ∀ (l : List Deferred) (W : World), l.Nodup → (∀ d ∈ l, ∃ D, d = { target := .collected D, args := #[] } ∧ c.w.heap.size ≤ D ∧ W.heap[D]? = some (.deferred (some [])) ∧ c'.w.heap[D]? = some (.deferred (some []))) → Side c.w.heap.size c' W → LeavesInM F n P fn tmps R l .returning W
  | [], W, _, _, hs => hK W hs
  | d :: l, W, hn, hl, hs => by
    obtain ⟨D, e1, e2, e3, e4⟩ := hl d (by simp)
    have hlt := (Array.getElem?_eq_some_iff.1 e3).1
    rw [List.nodup_cons] at hn
    refine ⟨by simp, .inl ⟨D, _, by rw [e1], run_takeDeferred e3, leave_left hK l _ hn.2 (fun d' hd' => ?_) ?_⟩⟩
    · obtain ⟨D', f1, f2, f3, f4⟩ := hl d' (by simp [hd'])
      have hne : D' ≠ D := fun e => hn.1 (by rw [e1, ← e, ← f1]; exact hd')
      exact ⟨D', f1, f2, (World.putObj_heap_other hne).trans f3, f4⟩
    · refine ⟨hs.os, hs.tape, hs.output, by simpa using hs.size, fun k hk => ?_⟩
      by_cases e : k = D
      · subst e; exact .inr ⟨e2, _, e4, rfl, fun _ es cl h => by cases h⟩
      · rcases hs.same k hk with h | h
        · exact .inl ((World.putObj_heap_other e).trans h)
        · exact .inr h
/-- a call, from the walk of its body -/
theorem calls_of_AW {f : FuncId} {fn : Func} {code : Code} {args : Array Value} {R : Ending → World → Prop} (hf : P.funcs[f]? = some fn) (hb : fn.body = some code) {c : Cx}
    (h : code.wpIn (FR none) 1 P (fun e a' w' => (e = .normal ∨ e = .ret) ∧ ∃ c', c'.w = w' ∧ GoA c { tmps := args ++ Array.replicate (fn.ntmps - args.size) undef, defers := [] } c' a' ∧ ∀ W2, Side c.w.heap.size c' W2 → ∃ v, (results fn a'.tmps).run P W2 = .ok v W2 ∧ R (.returned v) W2)
      { tmps := args ++ Array.replicate (fn.ntmps - args.size) undef, defers := [] } c.w) : Calls P f args c.w R := by
  refine (callsIn_wide (n := 1)).1 (callsIn_of_wp_marks hf hb trivial (wpIn_mono h ?_) rfl)
  rintro e a' w' ⟨he, c', rfl, ⟨g, l, e1, e2, e3⟩, hK⟩
  have key : LeavesInM Fence.wide 1 P fn a'.tmps R a'.defers .returning c'.w := by
    rw [e1, List.append_nil]
    exact leave_left hK l c'.w e2 (fun d hd => by obtain ⟨D, f1, f2, f3⟩ := e3 d hd; exact ⟨D, f1, f2, f3, f3⟩) (Side.refl _ _)
  rcases he with rfl | rfl
  · exact key
  · exact key
theorem RelR.side {nx : Nat} {done : Nat → Prop} {B : Nat} {c : Cx} {W : World} {st : ASt} {a : Act} (h : RelR N nx done c st a) (g : Side B c W) : RelR N nx done (c.at W) st a :=
  ⟨h.size, fun t => (h.env t).side g, h.hr.side g, h.σ, h.fresh⟩
end Go.Proofs.YtonglhkiobibgaaGreatDoor
namespace Go.Proofs.YtonglhkiobibgaaGreatDoor
open Go.RowKit
variable {P : Program} {N m : Nat}

def heapOf : List (Nat × AObj) → Heap
  | [], _ => none
  | (k, o) :: r, id => if id = k then some o else heapOf r id
theorem heapOf_mem : ∀ {l : List (Nat × AObj)} {id : Nat} {o : AObj}, heapOf l id = some o → (id, o) ∈ l
  | [], _, _, h => by cases h
  | (k, x) :: r, id, o, h => by
    rw [heapOf] at h
    split at h
    · rename_i e; cases h; rw [e]; simp
    · simp [heapOf_mem h]
theorem envOf_mem : ∀ {l : List (Nat × AV)} {t : Nat}, envOf l t = .any ∨ (t, envOf l t) ∈ l
  | [], _ => .inl rfl
  | (k, x) :: r, t => by
    rw [envOf]
    split
    · rename_i e; right; rw [e]; simp
    · rcases envOf_mem (l := r) (t := t) with h | h
      · exact .inl h
      · exact .inr (by simp [h])

/-- names are changed: old, new -/
def rn (re : List (Nat × Nat)) (i : Nat) : Nat := match re.find? (fun p => p.1 == i) with | some p => p.2 | none => i
theorem rn_mem {re : List (Nat × Nat)} {p : Nat × Nat} (h : p ∈ re) (hn : (re.map (·.1)).Nodup) : rn re p.1 = p.2 := by
  unfold rn
  have : re.find? (fun q => q.1 == p.1) = some p := by
    induction re with
    | nil => cases h
    | cons q re ih =>
      rw [List.map_cons, List.nodup_cons] at hn
      rcases List.mem_cons.1 h with rfl | h
      · simp
      · have : q.1 ≠ p.1 := fun e => hn.1 (by rw [e]; exact List.mem_map.2 ⟨p, h, rfl⟩)
        rw [List.find?_cons_of_neg (by simpa using this)]
        exact ih h hn.2
  rw [this]
def back (re : List (Nat × Nat)) (φ : Nat → Option (Option Nat)) (k : Nat) : Option (Option Nat) := match re.find? (fun p => p.2 == k) with | some p => φ p.1 | none => none
theorem back_mem {re : List (Nat × Nat)} {p : Nat × Nat} (h : p ∈ re) (hn : (re.map (·.2)).Nodup) (φ : Nat → Option (Option Nat)) : back re φ p.2 = φ p.1 := by
  unfold back
  have : re.find? (fun q => q.2 == p.2) = some p := by
    induction re with
    | nil => cases h
    | cons q re ih =>
      rw [List.map_cons, List.nodup_cons] at hn
      rcases List.mem_cons.1 h with rfl | h
      · simp
      · have : q.2 ≠ p.2 := fun e => hn.1 (by rw [e]; exact List.mem_map.2 ⟨p, h, rfl⟩)
        rw [List.find?_cons_of_neg (by simpa using this)]
        exact ih h hn.2
  rw [this]
theorem back_some {re : List (Nat × Nat)} {φ : Nat → Option (Option Nat)} {k : Nat} {x : Option Nat} (h : back re φ k = some x) : ∃ p ∈ re, p.2 = k ∧ φ p.1 = some x := by
  unfold back at h
  split at h
  · rename_i p hp
    exact ⟨p, List.mem_of_find?_eq_some hp, by simpa using List.find?_some hp, h⟩
  · cases h

/-- b says less than a -/
def Imp (a b : AV) : Prop := ∀ (c : Cx) (u : Value), VR c a u → VR c b u
theorem Imp.refl (a : AV) : Imp a a := fun _ _ h => h
theorem Imp.any (a : AV) : Imp a .any := fun _ _ _ => trivial
theorem Imp.nil (fr : Bool) : Imp (.v (.slice none 0 0)) (.fs fr [] 0) := fun _ u h => ⟨none, 0, h, Nat.le_refl _, fun h => absurd rfl h⟩
theorem Imp.agg {l l' : List AV} (hl : l'.length = l.length) (h : ∀ (j : Nat) a', l'[j]? = some a' → ∃ a, l[j]? = some a ∧ Imp a a') : Imp (.agg l) (.agg l') := by
  rintro c u ⟨us, rfl, hv⟩
  rw [VRl_iff] at hv
  refine ⟨us, rfl, VRl_iff.2 ⟨by omega, fun j a' hj => ?_⟩⟩
  obtain ⟨a, e1, e2⟩ := h j a' hj
  obtain ⟨w, e3, e4, e5⟩ := hv.2 j a e1
  exact ⟨w, e3, e4, e2 c w e5⟩
theorem Imp.tup {l l' : List AV} (hl : l'.length = l.length) (h : ∀ (j : Nat) a', l'[j]? = some a' → ∃ a, l[j]? = some a ∧ Imp a a') : Imp (.tup l) (.tup l') := by
  rintro c u ⟨us, rfl, hv⟩
  rw [VRt_iff] at hv
  refine ⟨us, rfl, VRt_iff.2 ⟨by omega, fun j a' hj => ?_⟩⟩
  obtain ⟨a, e1, e2⟩ := h j a' hj
  obtain ⟨w, e3, e5⟩ := hv.2 j a e1
  exact ⟨w, e3, e2 c w e5⟩
theorem Imp.fs {fr fr' : Bool} {l l' : List AV} {n : Nat} (hf : fr' = true → fr = true) (hl : l'.length = l.length) (h : ∀ (j : Nat) a', l'[j]? = some a' → ∃ a, l[j]? = some a ∧ Imp a a') : Imp (.fs fr l n) (.fs fr' l' n) := by
  rintro c u ⟨A, k, rfl, hk, hm⟩
  refine ⟨A, k, rfl, hk, fun h0 => ?_⟩
  obtain ⟨b, off, rfl, e1, e2, e3⟩ := hm h0
  refine ⟨b, off, rfl, e1, ⟨fun h9 => e2.1 (hf h9), e2.2⟩, VRm_iff.2 fun j a' hj => ?_⟩
  obtain ⟨a, f1, f2⟩ := h j a' hj
  obtain ⟨w, f3, f4, f5⟩ := VRm_iff.1 e3 j a f1
  exact ⟨w, f3, f4, f2 c w f5⟩
/-- What is known now, in other names; rows and slots that are not named are let go. -/
theorem Weak.to {s : ASt} (re : List (Nat × Nat)) (l : List (Nat × AV)) (h : List (Nat × AObj)) (nx : Nat) (h1 : (re.map (·.1)).Nodup) (h2 : (re.map (·.2)).Nodup) (h3 : ∀ p ∈ re, (p.1 < m → p.2 = p.1) ∧ (m ≤ p.1 → m ≤ p.2) ∧ p.2 < nx) (hm : m ≤ nx)
    (hl : ∀ t v, (t, v) ∈ l → Al (fun i => i ∈ re.map (·.1)) (s.env t) ∧ Imp (ren (rn re) (s.env t)) v)
    (hh : ∀ j o, (j, o) ∈ h → ∃ i y e cells, (i, j) ∈ re ∧ s.σ i = some (.row y e cells) ∧ AlL (fun i => i ∈ re.map (·.1)) cells ∧ o = .row y e (renL (rn re) cells)) : Weak N m s ⟨envOf l, heapOf h, nx⟩ := by
  intro c a hr hms
  generalize hd : (⟨c.w, c.B, fun k => if k < m then c.φ k else back re c.φ k, heapOf h, c.X, c.Y⟩ : Cx) = d
  have dw : d.w = c.w := by rw [← hd]
  have dB : d.B = c.B := by rw [← hd]
  have dX : d.X = c.X := by rw [← hd]
  have dY : d.Y = c.Y := by rw [← hd]
  have dσ : d.σ = heapOf h := by rw [← hd]
  have dφ : ∀ k, d.φ k = if k < m then c.φ k else back re c.φ k := by rw [← hd]; intro k; rfl
  have pair : ∀ p ∈ re, d.φ p.2 = c.φ p.1 := by
    intro p hp
    rw [dφ]
    obtain ⟨e1, e2, e3⟩ := h3 p hp
    split
    · rename_i hlt
      by_cases e4 : p.1 < m
      · rw [e1 e4]
      · exact absurd hlt (Nat.not_lt.2 (e2 (Nat.not_lt.1 e4)))
    · exact back_mem hp h2 c.φ
  have live : ∀ k o, d.σ k = some o → ∃ i y e cells, (i, k) ∈ re ∧ c.σ i = some (.row y e cells) ∧ AlL (fun i => i ∈ re.map (·.1)) cells ∧ o = .row y e (renL (rn re) cells) := by
    intro k o hk
    rw [dσ] at hk
    obtain ⟨i, y, e, cells, e1, e2, e3, e4⟩ := hh k o (heapOf_mem hk)
    exact ⟨i, y, e, cells, e1, by rw [hr.σ]; exact e2, e3, e4⟩
  have hT : ∀ b, d.T b → c.T b := by
    rintro b ⟨k, o, e1, e2⟩
    obtain ⟨i, y, e, cells, f1, f2, _⟩ := live k o e1
    exact ⟨i, _, f2, by rw [← pair _ f1]; exact e2⟩
  have al : Alike (fun i => i ∈ re.map (·.1)) (rn re) c d := by
    refine ⟨dw, fun i x hi hx => ?_, fun fr b _ ho => ⟨by rw [dB]; exact ho.1, fun ht => ho.2.1 (hT b ht), by rw [dX]; exact ho.2.2⟩, fun k b n ho => ⟨by rw [dX]; exact ho.1, fun ht => ho.2.1 (hT b ht), by rw [dY, dw]; exact ho.2.2⟩⟩
    obtain ⟨p, hp, rfl⟩ := List.mem_map.1 hi
    rw [rn_mem hp h1, pair p hp]
    exact hx
  have g : Grow c d := Still.grow ⟨dY, dX, dB, by rw [dw], by rw [dw], by rw [dw], by rw [dw]; exact Nat.le_refl _, fun b _ _ => by rw [dw], fun b hb => .inl (hT b hb), fun b cs e f hb => ⟨cs, f, by rw [dw]; exact hb, rfl⟩⟩
  refine ⟨d, dw, g, fun id hid => by rw [dφ, if_pos hid], ⟨hr.size, fun t => ?_, ⟨fun id y e cells hs => ?_, fun id id' b e1 e2 e3 e4 => ?_, by rw [dB, dw]; exact hr.hr.base, fun b hb => by rw [dX] at hb; rw [dw]; exact hr.hr.xlt b hb, hr.hr.gl.grow g⟩, dσ, fun id hid hne => ?_⟩, hm⟩
  · simp only
    rcases envOf_mem (l := l) (t := t) with h9 | h9
    · rw [h9]; trivial
    · obtain ⟨e1, e2⟩ := hl _ _ h9
      exact e2 _ _ (VR.ren al e1 (hr.env t))
  · obtain ⟨i, y', e', cells', f1, f2, f3, f4⟩ := live id _ hs
    cases f4
    rcases hr.hr.row i y e cells' f2 with ⟨g1, g2⟩ | ⟨b, cs, g1, g2, g3, g4, g5⟩
    · exact .inl ⟨by rw [pair _ f1]; exact g1, by rw [g2.1]; rfl, g2.2⟩
    · refine .inr ⟨b, cs, by rw [pair _ f1]; exact g1, by rw [dw]; exact g2.to (by rw [renL_map]; simp), ⟨by rw [dB]; exact g3.1, by rw [dX]; exact g3.2⟩, by rw [renL_map]; simpa using g4, fun j x hj => ?_⟩
      rw [renL_map, List.getElem?_map, Option.map_eq_some_iff] at hj
      obtain ⟨x', hx', rfl⟩ := hj
      obtain ⟨u, k1, k2, k3⟩ := g5 j x' hx'
      exact ⟨u, k1, k2, VR.ren al (AlL_iff.1 f3 x' (List.mem_of_getElem? hx')) k3⟩
  · obtain ⟨o1, ho1⟩ := Option.ne_none_iff_exists'.1 e1
    obtain ⟨o2, ho2⟩ := Option.ne_none_iff_exists'.1 e2
    obtain ⟨i1, _, _, _, f1, f2, _⟩ := live id o1 ho1
    obtain ⟨i2, _, _, _, g1, g2, _⟩ := live id' o2 ho2
    have := hr.hr.inj i1 i2 b (by rw [f2]; simp) (by rw [g2]; simp) (by rw [← pair _ f1]; exact e3) (by rw [← pair _ g1]; exact e4)
    subst this
    have k1 := rn_mem f1 h1
    have k2 := rn_mem g1 h1
    simp only at k1 k2
    omega
  · exfalso
    rw [dφ, if_neg (by simp at hid; omega)] at hne
    obtain ⟨x, hx⟩ := Option.ne_none_iff_exists'.1 hne
    obtain ⟨p, hp, rfl, _⟩ := back_some hx
    have := (h3 p hp).2.2
    simp at hid
    omega

/-- a value whose row is written no more -/
def Fz0 (id : Nat) (y : Bool) (cells : List AV) (a b : AV) : Prop :=
  b = a ∨ b = .any ∨ (∃ off n sz, a = .os id off n sz ∧ b = .fs y ((cells.drop off).take (n * sz)) n) ∨ ∃ off, a = .op id off ∧ b = .fp y cells off
def Fz (id : Nat) (y : Bool) (cells : List AV) (a b : AV) : Prop :=
  Fz0 id y cells a b ∨ ∃ l l', a = .agg l ∧ b = .agg l' ∧ l'.length = l.length ∧ ∀ (j : Nat) x', l'[j]? = some x' → ∃ x, l[j]? = some x ∧ Fz0 id y cells x x'
/-- A row is written no more: what led to it is data. -/
theorem Weak.freeze {s : ASt} (id : Nat) {y : Bool} {e : Nat} {cells : List AV} (hid : s.σ id = some (.row y e cells)) (l : List (Nat × AV)) (h : List (Nat × AObj))
    (hl : ∀ t v, (t, v) ∈ l → Fz id y cells (s.env t) v)
    (hh : ∀ j o, (j, o) ∈ h → j ≠ id ∧ ∃ y' e' cs cs', s.σ j = some (.row y' e' cs) ∧ o = .row y' e' cs' ∧ cs'.length = cs.length ∧ ∀ (k : Nat) x', cs'[k]? = some x' → ∃ x, cs[k]? = some x ∧ Fz0 id y cells x x') : Weak N m s ⟨envOf l, heapOf h, s.nx⟩ := by
  intro c a hr hms
  generalize hd : (⟨c.w, c.B, c.φ, heapOf h, c.X, c.Y⟩ : Cx) = d
  have dw : d.w = c.w := by rw [← hd]
  have dB : d.B = c.B := by rw [← hd]
  have dX : d.X = c.X := by rw [← hd]
  have dY : d.Y = c.Y := by rw [← hd]
  have dσ : d.σ = heapOf h := by rw [← hd]
  have dφ : d.φ = c.φ := by rw [← hd]
  have hidc : c.σ id = some (.row y e cells) := by rw [hr.σ]; exact hid
  have live : ∀ j o, d.σ j = some o → j ≠ id ∧ ∃ y' e' cs cs', c.σ j = some (.row y' e' cs) ∧ o = .row y' e' cs' ∧ cs'.length = cs.length ∧ ∀ (k : Nat) x', cs'[k]? = some x' → ∃ x, cs[k]? = some x ∧ Fz0 id y cells x x' := by
    intro j o hj
    rw [dσ] at hj
    obtain ⟨e1, y', e', cs, cs', f1, f2⟩ := hh j o (heapOf_mem hj)
    exact ⟨e1, y', e', cs, cs', by rw [hr.σ]; exact f1, f2⟩
  have hT : ∀ b, d.T b → c.T b ∧ c.φ id ≠ some (some b) := by
    rintro b ⟨k, o, e1, e2⟩
    obtain ⟨f0, y', e', cs, cs', f1, _⟩ := live k o e1
    rw [dφ] at e2
    exact ⟨⟨k, _, f1, e2⟩, fun h9 => f0 (hr.hr.inj k id b (by rw [f1]; simp) (by rw [hidc]; simp) e2 h9)⟩
  have g : Grow c d := Still.grow ⟨dY, dX, dB, by rw [dw], by rw [dw], by rw [dw], by rw [dw]; exact Nat.le_refl _, fun b _ _ => by rw [dw], fun b hb => .inl (hT b hb).1, fun b cs e f hb => ⟨cs, f, by rw [dw]; exact hb, rfl⟩⟩
  have nm : Names c d := fun k x hk => by rw [dφ]; exact hk
  have fz0 : ∀ {x x' : AV} {u : Value}, Fz0 id y cells x x' → VR c x u → VR d x' u := by
    intro x x' u hf hv
    rcases hf with rfl | rfl | ⟨off, n, sz, rfl, rfl⟩ | ⟨off, rfl, rfl⟩
    · exact hv.mono g nm
    · trivial
    · obtain ⟨A, k, rfl, hk, hm⟩ := hv
      refine ⟨A, k, rfl, hk, fun h0 => ?_⟩
      rcases hm with ⟨_, e1⟩ | ⟨b, e1, rfl, cs9, e9, f9, h9, _⟩
      · omega
      · rcases hr.hr.row id y e cells hidc with ⟨g1, _⟩ | ⟨b', cs, g1, g2, g3, g4, g5⟩
        · rw [e1] at g1; cases g1
        · rw [e1] at g1; cases g1
          replace g2 := g2.cells ⟨_, _, _, h9⟩
          refine ⟨b, off, rfl, by rw [dw, Array.getElem?_eq_some_iff] at *; exact g2.1, ⟨by rw [dB]; exact g3.1, fun ht => (hT b ht).2 e1, by rw [dX]; exact g3.2⟩, VRm_iff.2 fun j z hj => ?_⟩
          rw [List.getElem?_take] at hj
          split at hj
          · rw [List.getElem?_drop] at hj
            obtain ⟨q, k1, k2, k3⟩ := g5 _ _ hj
            exact ⟨q, by rw [dw]; simp [World.cell?, g2, k1], k2, k3.mono g nm⟩
          · cases hj
    · obtain ⟨b, e1, rfl, hcl⟩ := hv
      rcases hr.hr.row id y e cells hidc with ⟨g1, _⟩ | ⟨b', cs, g1, g2, g3, g4, g5⟩
      · rw [e1] at g1; cases g1
      · rw [e1] at g1; cases g1
        replace g2 := g2.cells hcl
        refine ⟨b, 0, by rw [Nat.zero_add], by rw [dw, Array.getElem?_eq_some_iff] at *; exact g2.1, ⟨by rw [dB]; exact g3.1, fun ht => (hT b ht).2 e1, by rw [dX]; exact g3.2⟩, VRm_iff.2 fun j z hj => ?_⟩
        obtain ⟨q, k1, k2, k3⟩ := g5 _ _ hj
        exact ⟨q, by rw [dw, Nat.zero_add]; simp [World.cell?, g2, k1], k2, k3.mono g nm⟩
  refine ⟨d, dw, g, fun _ _ => by rw [dφ], ⟨hr.size, fun t => ?_, ⟨fun j y' e' cs' hs => ?_, fun i i' b e1 e2 e3 e4 => ?_, by rw [dB, dw]; exact hr.hr.base, fun b hb => by rw [dX] at hb; rw [dw]; exact hr.hr.xlt b hb, hr.hr.gl.grow g⟩, dσ, fun k hk hne => by rw [dφ] at hne; exact hr.fresh k hk hne⟩, hms⟩
  · simp only
    rcases envOf_mem (l := l) (t := t) with h9 | h9
    · rw [h9]; trivial
    · rcases hl _ _ h9 with hf | ⟨q, q', e1, e2, e3, e4⟩
      · exact fz0 hf (hr.env t)
      · rw [e2]
        have hv := hr.env t
        rw [e1] at hv
        obtain ⟨us, hu, hv⟩ := hv
        rw [VRl_iff] at hv
        refine ⟨us, hu, VRl_iff.2 ⟨by omega, fun j x' hj => ?_⟩⟩
        obtain ⟨x, k1, k2⟩ := e4 j x' hj
        obtain ⟨w, k3, k4, k5⟩ := hv.2 j x k1
        exact ⟨w, k3, k4, fz0 k2 k5⟩
  · obtain ⟨f0, y2, e2, cs, cs2, f1, f2, f3, f4⟩ := live j _ hs
    cases f2
    rcases hr.hr.row j y' e' cs f1 with ⟨g1, g2⟩ | ⟨b, ca, g1, g2, g3, g4, g5⟩
    · refine .inl ⟨by rw [dφ]; exact g1, ?_, g2.2⟩
      rw [g2.1] at f3
      exact List.eq_nil_of_length_eq_zero f3
    · refine .inr ⟨b, ca, by rw [dφ]; exact g1, by rw [dw]; exact g2.to f3, ⟨by rw [dB]; exact g3.1, by rw [dX]; exact g3.2⟩, by omega, fun k x' hk => ?_⟩
      obtain ⟨x, k1, k2⟩ := f4 k x' hk
      obtain ⟨u, k3, k4, k5⟩ := g5 k x k1
      exact ⟨u, k3, k4, fz0 k2 k5⟩
  · obtain ⟨o1, ho1⟩ := Option.ne_none_iff_exists'.1 e1
    obtain ⟨o2, ho2⟩ := Option.ne_none_iff_exists'.1 e2
    obtain ⟨_, _, _, _, _, f1, _⟩ := live i o1 ho1
    obtain ⟨_, _, _, _, _, f2, _⟩ := live i' o2 ho2
    rw [dφ] at e3 e4
    exact hr.hr.inj i i' b (by rw [f1]; simp) (by rw [f2]; simp) e3 e4

/-- nil, as an empty row of its own -/
def Vt0 (j sz : Nat) (a b : AV) : Prop := b = a ∨ (a = .v (.slice none 0 0) ∧ b = .os j 0 0 sz)
theorem Weak.virt {s : ASt} (e sz : Nat) (hneM : e ≠ MAPE) (l : List (Nat × AV)) (h : List (Nat × AObj)) (hl : ∀ t v, (t, v) ∈ l → Vt0 s.nx sz (s.env t) v)
    (hh : ∀ j o, (j, o) ∈ h → j < s.nx ∧ ∃ y' e' cs cs', s.σ j = some (.row y' e' cs) ∧ o = .row y' e' cs' ∧ cs'.length = cs.length ∧ ∀ (k : Nat) x', cs'[k]? = some x' → ∃ x, cs[k]? = some x ∧ Vt0 s.nx sz x x') : Weak N m s ⟨envOf l, heapOf ((s.nx, .row true e []) :: h), s.nx + 1⟩ := by
  intro c a hr hms
  have hn : c.φ s.nx = none := by
    cases hc : c.φ s.nx with
    | none => rfl
    | some x => obtain ⟨j, h1, _⟩ := hr.fresh s.nx (Nat.le_refl _) (by rw [hc]; simp); exact h1.elim
  generalize hd : (⟨c.w, c.B, fun k => if k = s.nx then some none else c.φ k, heapOf ((s.nx, .row true e []) :: h), c.X, c.Y⟩ : Cx) = d
  have dw : d.w = c.w := by rw [← hd]
  have dB : d.B = c.B := by rw [← hd]
  have dX : d.X = c.X := by rw [← hd]
  have dY : d.Y = c.Y := by rw [← hd]
  have dσ : d.σ = heapOf ((s.nx, .row true e []) :: h) := by rw [← hd]
  have dφ : ∀ k, d.φ k = if k = s.nx then some none else c.φ k := by rw [← hd]; intro k; rfl
  have live : ∀ j o, d.σ j = some o → (j = s.nx ∧ o = .row true e []) ∨ (j ≠ s.nx ∧ ∃ y' e' cs cs', c.σ j = some (.row y' e' cs) ∧ o = .row y' e' cs' ∧ cs'.length = cs.length ∧ ∀ (k : Nat) x', cs'[k]? = some x' → ∃ x, cs[k]? = some x ∧ Vt0 s.nx sz x x') := by
    intro j o hj
    rw [dσ, heapOf] at hj
    split at hj
    · rename_i e1; cases hj; exact .inl ⟨e1, rfl⟩
    · rename_i e1
      obtain ⟨e2, y', e', cs, cs', f1, f2⟩ := hh j o (heapOf_mem hj)
      exact .inr ⟨e1, y', e', cs, cs', by rw [hr.σ]; exact f1, f2⟩
  have hT : ∀ b, d.T b → c.T b := by
    rintro b ⟨k, o, e1, e2⟩
    rcases live k o e1 with ⟨rfl, _⟩ | ⟨f0, y', e', cs, cs', f1, _⟩
    · rw [dφ, if_pos rfl] at e2; cases e2
    · rw [dφ, if_neg f0] at e2; exact ⟨k, _, f1, e2⟩
  have g : Grow c d := Still.grow ⟨dY, dX, dB, by rw [dw], by rw [dw], by rw [dw], by rw [dw]; exact Nat.le_refl _, fun b _ _ => by rw [dw], fun b hb => .inl (hT b hb), fun b cs e f hb => ⟨cs, f, by rw [dw]; exact hb, rfl⟩⟩
  have nm : Names c d := fun k x hk => by rw [dφ, if_neg (by intro e1; rw [e1, hn] at hk; cases hk)]; exact hk
  have vt0 : ∀ {x x' : AV} {u : Value}, Vt0 s.nx sz x x' → VR c x u → VR d x' u := by
    intro x x' u hf hv
    rcases hf with rfl | ⟨rfl, rfl⟩
    · exact hv.mono g nm
    · have : u = .slice none 0 0 := hv
      exact ⟨none, 0, this, Nat.le_refl _, .inl ⟨by rw [dφ, if_pos rfl]; simp, rfl⟩⟩
  refine ⟨d, dw, g, fun id hid => by rw [dφ, if_neg (by omega)], ⟨hr.size, fun t => ?_, ⟨fun j y' e' cs' hs => ?_, fun i i' b e1 e2 e3 e4 => ?_, by rw [dB, dw]; exact hr.hr.base, fun b hb => by rw [dX] at hb; rw [dw]; exact hr.hr.xlt b hb, hr.hr.gl.grow g⟩, dσ, fun k hk hne => ?_⟩, by show m ≤ s.nx + 1; omega⟩
  · simp only
    rcases envOf_mem (l := l) (t := t) with h9 | h9
    · rw [h9]; trivial
    · exact vt0 (hl _ _ h9) (hr.env t)
  · rcases live j _ hs with ⟨rfl, e9⟩ | ⟨f0, y2, e2, cs, cs2, f1, f2, f3, f4⟩
    · cases e9
      exact .inl ⟨by rw [dφ, if_pos rfl], rfl, hneM⟩
    · cases f2
      rcases hr.hr.row j y' e' cs f1 with ⟨g1, g2⟩ | ⟨b, ca, g1, g2, g3, g4, g5⟩
      · refine .inl ⟨by rw [dφ, if_neg f0]; exact g1, ?_, g2.2⟩
        rw [g2.1] at f3
        exact List.eq_nil_of_length_eq_zero f3
      · refine .inr ⟨b, ca, by rw [dφ, if_neg f0]; exact g1, by rw [dw]; exact g2.to f3, ⟨by rw [dB]; exact g3.1, by rw [dX]; exact g3.2⟩, by omega, fun k x' hk => ?_⟩
        obtain ⟨x, k1, k2⟩ := f4 k x' hk
        obtain ⟨u, k3, k4, k5⟩ := g5 k x k1
        exact ⟨u, k3, k4, vt0 k2 k5⟩
  · obtain ⟨o1, ho1⟩ := Option.ne_none_iff_exists'.1 e1
    obtain ⟨o2, ho2⟩ := Option.ne_none_iff_exists'.1 e2
    rcases live i o1 ho1 with ⟨rfl, _⟩ | ⟨f0, _, _, _, _, f1, _⟩
    · rw [dφ, if_pos rfl] at e3; cases e3
    · rcases live i' o2 ho2 with ⟨rfl, _⟩ | ⟨g0, _, _, _, _, f2, _⟩
      · rw [dφ, if_pos rfl] at e4; cases e4
      · rw [dφ, if_neg f0] at e3
        rw [dφ, if_neg g0] at e4
        exact hr.hr.inj i i' b (by rw [f1]; simp) (by rw [f2]; simp) e3 e4
  · simp only at hk
    rw [dφ, if_neg (by omega)] at hne
    obtain ⟨j, h9, _⟩ := hr.fresh k (by omega) hne
    exact h9.elim
/-- What a function leaves, in the caller's names: its results r, and rows W, whose own names (in the body) are is. -/
structure Fin (rs : List RV) (s : ASt) (nb : Nat) (is : List Nat) (r : AV) (W : List (Nat × Option AObj)) : Prop where
  nodup : is.Nodup
  few : is.length ≤ 100000
  res : ∃ l, resL s rs = some l ∧ Al (fun i => i ∈ is) (tupOf l) ∧ Imp (ren (rn (is.zipIdx nb)) (tupOf l)) r
  rows : ∃ ws : List (Bool × Nat × List AV), ws.length = is.length ∧ W = (ws.zipIdx nb).map (fun x => (x.2, some (AObj.row x.1.1 x.1.2.1 x.1.2.2))) ∧
    ∀ (k : Nat) i, is[k]? = some i → ∃ y e cells, s.σ i = some (.row y e cells) ∧ AlL (fun i => i ∈ is) cells ∧ ∃ cells', ws[k]? = some (y, e, cells') ∧ cells'.length = cells.length ∧ ∀ (j : Nat) a', cells'[j]? = some a' → ∃ a, cells[j]? = some a ∧ Imp (ren (rn (is.zipIdx nb)) a) a'
def envA (args : List AV) (t : Nat) : AV := (args[t]?).getD .any
theorem app_rows {σ : Heap} : ∀ {ws : List (Bool × Nat × List AV)} {nb id : Nat}, app σ ((ws.zipIdx nb).map (fun x => (x.2, some (AObj.row x.1.1 x.1.2.1 x.1.2.2)))) id = if nb ≤ id then (match ws[id - nb]? with | some x => some (.row x.1 x.2.1 x.2.2) | none => σ id) else σ id
  | [], nb, id => by simp [app]
  | x :: ws, nb, id => by
    rw [List.zipIdx_cons, List.map_cons, app, app_rows (ws := ws) (nb := nb + 1)]
    by_cases h1 : nb + 1 ≤ id
    · rw [if_pos h1, if_pos (show nb ≤ id by omega), show id - nb = id - (nb + 1) + 1 from by omega, List.getElem?_cons_succ]
      simp only [if_neg (show ¬ id = nb by omega)]
    · rw [if_neg h1]
      by_cases h2 : id = nb
      · subst h2; simp
      · rw [if_neg h2, if_neg (by omega)]
/-- what of a callee's others may be written: what is another's already -/
theorem Cx.yx (c : Cx) : ∃ Y : Nat → WK, (∀ b, c.X b → Y b = c.Y b) ∧ ∀ b, ¬ c.X b → Y b = .no := by
  classical exact ⟨fun b => if c.X b then c.Y b else .no, fun b h => if_pos h, fun b h => if_neg h⟩
theorem HR.TX {c : Cx} (h : HR c) {b : Nat} (ht : c.T b) : ¬ c.X b := by
  obtain ⟨id, ⟨y, e, cells⟩, e1, e2⟩ := ht
  rcases h.row id y e cells e1 with ⟨g1, _⟩ | ⟨b', cs, g1, g2, g3, _⟩
  · rw [e2] at g1; cases g1
  · rw [e2] at g1; cases g1; exact g3.2
/-- A function's calls do what its body comes to. -/
theorem fun_sound {f : FuncId} {fn : Func} {code : Code} {ac : AC} {rs : List RV} {args : List AV} {nb : Nat} {r : AV} {W : List (Nat × Option AObj)} (hf : P.funcs[f]? = some fn) (hb : fn.body = some code) (hn : enters P f = true)
    (hc : compCode P fn.ntmps code = some ac.forget) (hres : compRes P fn.results.toList = some rs) (hlen : args.length ≤ fn.ntmps) (hpure : PuL args)
    (h : AWc P fn.ntmps 0 ac ⟨envA args, fun _ => none, 0⟩ (fun e s => (e = .normal ∨ e = .ret) ∧ ∃ s', Weak fn.ntmps 0 s s' ∧ ∃ is, Fin rs s' nb is r W)) : ASound P f args nb (.ret r W) := by
  refine ⟨hn, fun c us r' R W' hrun hr hfr hv => ?_⟩
  simp [AM.run] at hrun
  obtain ⟨rfl, rfl, rfl⟩ := hrun
  obtain ⟨Yx, Yx_pos, Yx_neg⟩ := c.yx
  generalize hc1 : (⟨c.w, c.B, fun _ => none, fun _ => none, fun b => c.T b ∨ c.X b, Yx⟩ : Cx) = c1
  have w1 : c1.w = c.w := by rw [← hc1]
  have B1 : c1.B = c.B := by rw [← hc1]
  have σ1 : c1.σ = fun _ => none := by rw [← hc1]
  have φ1 : c1.φ = fun _ => none := by rw [← hc1]
  have X1 : ∀ b, c1.X b ↔ (c.T b ∨ c.X b) := by rw [← hc1]; intro b; rfl
  have Y1 : c1.Y = Yx := by rw [← hc1]
  have T1 : ∀ b, ¬ c1.T b := by rintro b ⟨id, o, e1, _⟩; rw [σ1] at e1; cases e1
  have Tlt : ∀ b, c.T b → b < c.w.heap.size := by
    rintro b ⟨id, ⟨y, e, cells⟩, e1, e2⟩
    rcases hr.row id y e cells e1 with ⟨g1, _⟩ | ⟨b', cs, g1, g2, _⟩
    · rw [e2] at g1; cases g1
    · rw [e2] at g1; cases g1; exact g2.lt
  have al : Alike (fun _ => False) id c c1 := ⟨w1, fun _ _ h => h.elim, fun fr b _ ho => ⟨by rw [B1]; exact ho.1, T1 b, by rw [X1]; rintro (h9 | h9) <;> first | exact ho.2.1 h9 | exact ho.2.2 h9⟩, fun k b n ho => ⟨by rw [X1]; exact .inr ho.1, T1 b, by rw [Y1, Yx_pos _ ho.1, w1]; exact ho.2.2⟩⟩
  have hv1 : VRt c1 args us := by
    have := VRt.ren al hpure hv
    rwa [renL_id (p := fun _ => False) (fun _ h => h.elim) hpure] at this
  have hul := (VRt_iff.1 hv1).1
  have hrel : RelR fn.ntmps 0 No c1 ⟨envA args, fun _ => none, 0⟩ { tmps := us.toArray ++ Array.replicate (fn.ntmps - us.toArray.size) undef, defers := [] } := by
    have hx1 : ∀ b, c1.X b → b < c1.w.heap.size := by
      intro b hb
      rw [w1]
      rcases (X1 b).1 hb with h9 | h9
      · exact Tlt b h9
      · exact hr.xlt b h9
    have hr1 : HR c1 := ⟨fun id y e cells hs => (by rw [σ1] at hs; cases hs), fun id id' b e1 => (by rw [σ1] at e1; exact absurd rfl e1), (by rw [B1, w1]; exact hr.base), hx1, hr.gl.to fun b _ h2 h3 => ⟨by rw [w1], T1 b, fun _ => by
      rw [Y1]
      by_cases hx : c.X b
      · rw [Yx_pos _ hx]; exact h3 hx
      · exact Yx_neg _ hx⟩⟩
    refine ⟨by simp; omega, fun t => ?_, hr1, σ1, fun id _ hne => (by rw [φ1] at hne; exact absurd rfl hne)⟩
    simp only [envA]
    cases ha : args[t]? with
    | none => trivial
    | some x =>
      obtain ⟨u, e1, e2⟩ := (VRt_iff.1 hv1).2 t x ha
      have hlt : t < us.length := by rw [List.getElem?_eq_some_iff] at e1; exact e1.1
      have : (us.toArray ++ Array.replicate (fn.ntmps - us.toArray.size) undef).getD t undef = u := by
        rw [Array.getD_eq_getD_getElem?, Array.getElem?_append_left (by simpa using hlt)]
        simp [e1]
      rw [this]; exact e2
  have hw := h code hc none (.inl rfl) 1 c1 _ hrel (Nat.zero_le _)
  rw [← w1]
  refine calls_of_AW hf hb (wpIn_mono hw ?_)
  rintro e a' w' ⟨c20, s2, rfl, ga, _, hr20, _, he, s3, hwk, is, fin⟩
  refine ⟨he, c20, rfl, ga, fun W2 hsd => ?_⟩
  have g2 : Grow c1 (c20.at W2) := ga.g.side hsd (Nat.le_refl _)
  have hr2 := hr20.side hsd
  have w2 : (c20.at W2).w = W2 := rfl
  generalize c20.at W2 = c2 at *
  subst w2
  obtain ⟨c3, k1, k2, _, hr3, _⟩ := hwk c2 a' hr2 (Nat.zero_le _)
  have g3 : Grow c1 c3 := g2.trans k2
  obtain ⟨l, l1, l2, l3⟩ := fin.res
  obtain ⟨ws, v1, v2, v3⟩ := fin.rows
  obtain ⟨u, hu1, hu2⟩ := results_run hr3 hres l1
  rw [k1] at hu1
  have hz : ∀ (k : Nat) i, is[k]? = some i → rn (is.zipIdx nb) i = nb + k := by
    intro k i hk
    have hm : (i, nb + k) ∈ is.zipIdx nb := by
      rw [List.mem_iff_getElem?]
      exact ⟨k, by rw [List.getElem?_zipIdx, hk]; rfl⟩
    have := rn_mem hm (by rw [List.zipIdx_map_fst]; exact fin.nodup)
    exact this
  generalize hd : (⟨c3.w, c.B, fun id => if nb ≤ id then (match is[id - nb]? with | some i => c3.φ i | none => c.φ id) else c.φ id, app c.σ W, c.X, c.Y⟩ : Cx) = d
  have dw : d.w = c3.w := by rw [← hd]
  have dB : d.B = c.B := by rw [← hd]
  have dX : d.X = c.X := by rw [← hd]
  have dY : d.Y = c.Y := by rw [← hd]
  have dσ : ∀ id, d.σ id = if nb ≤ id then (match ws[id - nb]? with | some x => some (.row x.1 x.2.1 x.2.2) | none => c.σ id) else c.σ id := by
    intro id
    rw [← app_rows, ← v2, ← hd]
  have dφ : ∀ id, d.φ id = if nb ≤ id then (match is[id - nb]? with | some i => c3.φ i | none => c.φ id) else c.φ id := by rw [← hd]; intro id; rfl
  have stay : ∀ b, b < c.w.heap.size → (c.X b → c.Y b = .no) → d.w.heap[b]? = c.w.heap[b]? := fun b hb hy => by
    rw [dw]
    have := g3.stay b (by rw [w1]; exact hb) (T1 b) (fun _ => by
      rw [Y1]
      by_cases hx : c.X b
      · rw [Yx_pos _ hx]; exact hy hx
      · exact Yx_neg _ hx)
    rw [this, w1]
  have size : c.w.heap.size ≤ d.w.heap.size := by rw [dw, ← w1]; exact g3.size
  have dnew : ∀ (k : Nat) i, is[k]? = some i → d.φ (nb + k) = c3.φ i := fun k i hk => by
    rw [dφ, if_pos (by omega), Nat.add_sub_cancel_left, hk]
  have dold : ∀ id, (¬ nb ≤ id ∨ is[id - nb]? = none) → d.φ id = c.φ id ∧ d.σ id = c.σ id := by
    intro id hid
    rw [dφ, dσ]
    by_cases h1 : nb ≤ id
    · have h2 := hid.resolve_left (by simpa using h1)
      have h3 : ws[id - nb]? = none := by rw [List.getElem?_eq_none_iff] at h2 ⊢; omega
      rw [if_pos h1, if_pos h1, h2, h3]; exact ⟨rfl, rfl⟩
    · rw [if_neg h1, if_neg h1]; exact ⟨rfl, rfl⟩
  have names : Names c d := by
    intro id x hx
    by_cases h1 : nb ≤ id ∧ id - nb < is.length
    · rcases hfr id h1.1 with h2 | h2
      · rw [h2] at hx; cases hx
      · have := fin.few; omega
    · rw [(dold id (by by_cases h2 : nb ≤ id; · right; rw [List.getElem?_eq_none_iff]; omega
                       · exact .inl h2)).1]; exact hx
  have dlive : ∀ id o, d.σ id = some o → (c.σ id = some o ∧ d.φ id = c.φ id) ∨ ∃ k i y e cells, is[k]? = some i ∧ id = nb + k ∧ c3.σ i = some (.row y e cells) ∧ AlL (fun i => i ∈ is) cells ∧ ∃ cells', o = .row y e cells' ∧ cells'.length = cells.length ∧ ∀ (j : Nat) a', cells'[j]? = some a' → ∃ a, cells[j]? = some a ∧ Imp (ren (rn (is.zipIdx nb)) a) a' := by
    intro id o ho
    by_cases h1 : nb ≤ id ∧ id - nb < is.length
    · right
      have hk : is[id - nb]? = some is[id - nb] := List.getElem?_eq_getElem h1.2
      obtain ⟨y, e, cells, e1, e2, cells', e3, e4⟩ := v3 _ _ hk
      rw [dσ, if_pos h1.1, e3] at ho
      simp at ho
      exact ⟨id - nb, _, y, e, cells, hk, by omega, by rw [hr3.σ]; exact e1, e2, cells', ho.symm, e4⟩
    · left
      have := dold id (by by_cases h2 : nb ≤ id; · right; rw [List.getElem?_eq_none_iff]; omega
                          · exact .inl h2)
      rw [this.2] at ho
      exact ⟨ho, this.1⟩
  have newge : ∀ i y e cells b, c3.σ i = some (.row y e cells) → c3.φ i = some (some b) → c.w.heap.size ≤ b := by
    intro i y e cells b e1 e2
    rcases g3.held b ⟨i, _, e1, e2⟩ with h9 | h9
    · exact absurd h9 (T1 b)
    · rw [← w1]; exact h9
  have dT : ∀ b, d.T b → c.T b ∨ (c.w.heap.size ≤ b ∧ c3.T b) := by
    rintro b ⟨id, o, e1, e2⟩
    rcases dlive id o e1 with ⟨f1, f2⟩ | ⟨k, i, y, e, cells, f1, rfl, f3, _, _⟩
    · exact .inl ⟨id, o, f1, by rw [← f2]; exact e2⟩
    · rw [dnew k i f1] at e2
      exact .inr ⟨newge i y e cells b f3 e2, i, _, f3, e2⟩
  have grow : Grow c d := by
    refine ⟨dX, dB, ?_, ?_, ?_, size, fun b hb _ hy => stay b hb hy, fun b hb => (dT b hb).imp id (·.1), fun b cs e f hb => (by have := g3.shape b cs e f (by rw [w1]; exact hb); rw [dw]; exact this), dY, fun b k sz h1 h2 h3 h4 h5 => (by
      have := g3.wild b k sz (T1 b) (by rw [X1]; exact .inr h2) (by rw [Y1, Yx_pos _ h2]; exact h3) h4 (by rw [w1]; exact h5)
      rw [dw]; exact this)⟩
    · rw [dw, g3.out, w1]
    · rw [dw, g3.osE, w1]
    · rw [dw, g3.tape, w1]
  have al3 : Alike (fun i => i ∈ is) (rn (is.zipIdx nb)) c3 d := by
    refine ⟨dw, fun i x hi hx => ?_, fun fr b hb ho => ⟨fun hf' => ?_, fun ht => ?_, ?_⟩, ?_⟩
    · obtain ⟨k, hk⟩ := List.mem_iff_getElem?.1 hi
      rw [hz k i hk, dnew k i hk]; exact hx
    · rw [dB, ← B1, ← g3.B]; exact ho.1 hf'
    · rcases dT b ht with h9 | h9
      · exact ho.2.2 (by rw [g3.X, X1]; exact .inl h9)
      · exact ho.2.1 h9.2
    · rw [dX]; intro h9; exact ho.2.2 (by rw [g3.X, X1]; exact .inr h9)
    · intro k b n ho
      obtain ⟨o1, o2, o3, o4, o5⟩ := ho
      rw [g3.Y, Y1] at o3
      have hx : c.X b := by
        by_cases hx : c.X b
        · exact hx
        · rw [Yx_neg _ hx] at o3; rcases o4 with rfl | rfl <;> cases o3
      rw [Yx_pos _ hx] at o3
      refine ⟨by rw [dX]; exact hx, fun ht => ?_, by rw [dY]; exact o3, o4, by rw [dw]; exact o5⟩
      rcases dT b ht with h9 | h9
      · exact hr.TX h9 hx
      · exact o2 h9.2
  have hrd : HR d := by
    refine ⟨fun id y e cells hs => ?_, fun id id' b e1 e2 e3 e4 => ?_, by rw [dB]; exact Nat.le_trans hr.base size, fun b hb => by rw [dX] at hb; exact Nat.lt_of_lt_of_le (hr.xlt b hb) size, hr.gl.grow grow⟩
    · rcases dlive id _ hs with ⟨f1, f2⟩ | ⟨k, i, y', e', cells0, f1, rfl, f3, f4, cells', f5, f6, f7⟩
      · rcases hr.row id y e cells f1 with ⟨g1, g2⟩ | ⟨b, cs, g1, g2, g3', g4, g5⟩
        · exact .inl ⟨by rw [f2]; exact g1, g2⟩
        · refine .inr ⟨b, cs, by rw [f2]; exact g1, g2.of (stay b g2.lt (fun h9 => absurd h9 g3'.2)), ⟨by rw [dB]; exact g3'.1, by rw [dX]; exact g3'.2⟩, g4, fun j x hj => ?_⟩
          obtain ⟨q, k1, k2, k3⟩ := g5 j x hj
          exact ⟨q, k1, k2, k3.mono grow names⟩
      · cases f5
        rcases hr3.hr.row i y e cells0 f3 with ⟨g1, g2⟩ | ⟨b, cs, g1, g2, g3', g4, g5⟩
        · exact .inl ⟨by rw [dnew k i f1]; exact g1, by rw [g2.1] at f6; exact List.eq_nil_of_length_eq_zero f6, g2.2⟩
        · refine .inr ⟨b, cs, by rw [dnew k i f1]; exact g1, by rw [dw]; exact g2.to f6, ⟨fun hy => by rw [dB, ← B1, ← g3.B]; exact g3'.1 hy, fun hx => ?_⟩, by omega, fun j x hj => ?_⟩
          · rw [dX] at hx; exact g3'.2 (by rw [g3.X, X1]; exact .inr hx)
          · obtain ⟨x', hx', hi'⟩ := f7 j x hj
            obtain ⟨q, m1, m2, m3⟩ := g5 j x' hx'
            exact ⟨q, m1, m2, hi' _ _ (VR.ren al3 (AlL_iff.1 f4 x' (List.mem_of_getElem? hx')) m3)⟩
    · obtain ⟨o1, ho1⟩ := Option.ne_none_iff_exists'.1 e1
      obtain ⟨o2, ho2⟩ := Option.ne_none_iff_exists'.1 e2
      rcases dlive id o1 ho1 with ⟨f1, f2⟩ | ⟨k, i, y, e, cells, f1, rfl, f3, _, _⟩ <;> rcases dlive id' o2 ho2 with ⟨j1, j2⟩ | ⟨k', i', y', e', cells', j1, rfl, j3, _, _⟩
      · exact hr.inj id id' b (by rw [f1]; simp) (by rw [j1]; simp) (by rw [← f2]; exact e3) (by rw [← j2]; exact e4)
      · rw [dnew k' i' j1] at e4
        have := newge _ _ _ _ b j3 e4
        have := Tlt b ⟨id, _, f1, by rw [← f2]; exact e3⟩
        omega
      · rw [dnew k i f1] at e3
        have := newge _ _ _ _ b f3 e3
        have := Tlt b ⟨id', _, j1, by rw [← j2]; exact e4⟩
        omega
      · rw [dnew k i f1] at e3
        rw [dnew k' i' j1] at e4
        have := hr3.hr.inj i i' b (by rw [f3]; simp) (by rw [j3]; simp) e3 e4
        subst this
        have k1 := hz k i f1
        have k2 := hz k' i j1
        omega
  have T : Then c nb W d := ⟨grow, names, hrd, by rw [← hd], fun id hid => by
    by_cases h1 : nb ≤ id ∧ id - nb < is.length
    · right; have := fin.few; omega
    · left
      rw [(dold id (by by_cases h2 : nb ≤ id; · right; rw [List.getElem?_eq_none_iff]; omega
                       · exact .inl h2)).1] at hid
      exact hid⟩
  have fin' : ∃ v, (results fn a'.tmps).run P c2.w = .ok v c2.w ∧ ∃ v' d, Ending.returned v = .returned v' ∧ d.w = c2.w ∧ VR d r v' ∧ Then c nb W d := by
    refine ⟨u, hu1, u, d, rfl, by rw [dw]; exact k1, ?_, T⟩
    exact l3 _ _ (VR.ren al3 l2 hu2)
  exact fin'
end Go.Proofs.YtonglhkiobibgaaGreatDoor
namespace Go.Proofs.YtonglhkiobibgaaGreatDoor
open Go.RowKit
variable {P : Program} {N m : Nat}
def bodyOf (fn : Func) : Code := match fn.body with | some c => c | none => .skip
/-- function f of the program is ac, with N slots and results rs -/
structure FnOk (P : Program) (f N : Nat) (ac : AC) (rs : List RV) : Prop where
  h : ∃ fn, P.funcs[f]? = some fn ∧ fn.body = some (bodyOf fn) ∧ enters P f = true ∧ fn.ntmps = N ∧ compCode P N (bodyOf fn) = some ac.forget ∧ compRes P fn.results.toList = some rs
/-- a function is done, with such a result -/
def Ends (N : Nat) (rs : List RV) (nb : Nat) (r : AV) (W : List (Nat × Option AObj)) (e : Exit) (s : ASt) : Prop := (e = .normal ∨ e = .ret) ∧ ∃ s', Weak N 0 s s' ∧ ∃ is, Fin rs s' nb is r W
theorem FnOk.sound {f : Nat} {ac : AC} {rs : List RV} {args : List AV} {nb : Nat} {r : AV} {W : List (Nat × Option AObj)} (h : FnOk P f N ac rs) (hlen : args.length ≤ N) (hp : PuL args)
    (hw : wpC P N 0 ac ⟨envA args, fun _ => none, 0⟩ (Ends N rs nb r W)) : ASound P f args nb (.ret r W) := by
  obtain ⟨fn, h1, h2, h3, rfl, h5, h6⟩ := h.h
  exact fun_sound h1 h2 h3 h5 h6 hlen hp (wpC_sound hw)
theorem Ends.imp {rs : List RV} {nb : Nat} {r r0 : AV} {e : Exit} {s : ASt} (he : e = .normal ∨ e = .ret) (h : (resL s rs).map tupOf = some r0) (hp : Pu r0) (hi : Imp r0 r) : Ends N rs nb r [] e s := by
  obtain ⟨l, h1, h2⟩ := Option.map_eq_some_iff.1 h
  exact ⟨he, s, Weak.refl s, [], ⟨.nil, by simp, ⟨l, h1, by rw [h2]; exact Al.mono (fun _ h => h.elim) hp, by rw [h2, ren_id (p := fun _ => False) (fun _ h => h.elim) hp]; exact hi⟩, [], rfl, rfl, fun k i hk => by simp at hk⟩⟩
theorem Ends.data {rs : List RV} {nb : Nat} {r : AV} {e : Exit} {s : ASt} (he : e = .normal ∨ e = .ret) (h : (resL s rs).map tupOf = some r) (hp : Pu r) : Ends N rs nb r [] e s := Ends.imp he h hp (Imp.refl r)
theorem Ends.weak {rs : List RV} {nb : Nat} {r : AV} {W : List (Nat × Option AObj)} {e : Exit} {s s' : ASt} (hw : Weak N 0 s s') (h : Ends N rs nb r W e s') : Ends N rs nb r W e s := by
  obtain ⟨h1, s2, h2, h3⟩ := h
  exact ⟨h1, s2, hw.trans h2, h3⟩
theorem wrap64 {x : Int} (h : -9223372036854775808 ≤ x ∧ x ≤ 9223372036854775807) : IntKind.i64.wrap x = x := by
  rw [IntKind.wrap_i64]; omega
end Go.Proofs.YtonglhkiobibgaaGreatDoor
namespace Go.Proofs.YtonglhkiobibgaaGreatDoor
open Go.RowKit
variable {P : Program} {N m nx k id nb : Nat} {Q : Exit → ASt → Prop} {st s : ASt} {σ : Heap} {K : AV → List Nat → List (Nat × Option AObj) → Prop}

def seqC (P : Program) (N m : Nat) (b : AC) (Q : Exit → ASt → Prop) : Exit → ASt → Prop := seqK (fun s => wpC P N m b s Q) Q
theorem AM.runK_mono {σ : Heap} : ∀ {m : AM} {K K' : AV → List Nat → List (Nat × Option AObj) → Prop}, m.runK σ K → (∀ r R W, K r R W → K' r R W) → m.runK σ K'
  | .fail, _, _, h, _ => h
  | .ret _ _, _, _, h, hk => hk _ _ _ h
  | .rd id k, K, K', h, hk => by
    rw [AM.runK] at h ⊢
    split at h
    · rename_i o ho
      exact AM.runK_mono h (fun r R W => hk r (id :: R) W)
    · exact h
theorem execL_mono {op : AO} {K K' : AV → List Nat → List (Nat × Option AObj) → Prop} (h : execL P st op nb K) (hk : ∀ r R W, K r R W → K' r R W) : execL P st op nb K' := by
  cases op with
  | call f args => obtain ⟨m, h1, h2⟩ := h; exact ⟨m, h1, AM.runK_mono h2 hk⟩
  | callv g args => obtain ⟨f, caps, m, h0, h1, h2⟩ := h; exact ⟨f, caps, m, h0, h1, AM.runK_mono h2 hk⟩
  | _ => exact AM.runK_mono h hk
theorem runL_mono : ∀ {rs : List RO} {k : Nat} {st : ASt} {fs : List Foot} {R R' : ASt → List Foot → Prop}, runL P nx rs k st fs R → (∀ s fs, R s fs → R' s fs) → runL P nx rs k st fs R'
  | [], _, _, _, _, _, h, hr => hr _ _ h
  | r :: rs, k, st, fs, R, R', h, hr => by
    rw [runL] at h ⊢
    split
    · rename_i hg
      rw [hg] at h
      exact execL_mono h (fun x Rd W hx => runL_mono hx hr)
    · rename_i s want hg
      rw [hg] at h
      simp only [guardK] at h ⊢
      split
      · rename_i b hb
        rw [hb] at h
        exact ⟨fun e => execL_mono (h.1 e) (fun x Rd W hx => runL_mono hx hr), fun e => runL_mono (h.2 e) hr⟩
      · rename_i tt ht
        rw [ht] at h
        exact runL_mono h hr
      · rename_i hb hb2
        split at h
        · rename_i b hb'; exact absurd hb' (hb b)
        · rename_i tt ht; exact absurd ht (hb2 tt)
        · exact h
theorem wpC_mono : ∀ (Q Q' : Exit → ASt → Prop) (ac : AC) (s : ASt), wpC P N m ac s Q → (∀ e s, Q e s → Q' e s) → wpC P N m ac s Q'
  | Q, Q', .skip, s, h, hq => hq _ _ h
  | Q, Q', .ret, s, h, hq => hq _ _ h
  | Q, Q', .exit i, s, h, hq => hq _ _ h
  | Q, Q', .loop b, s, h, hq => AWc.mono h hq
  | Q, Q', .rfunc g ps mv b, s, h, hq => AWc.mono h hq
  | Q, Q', .rfuncC g ps a b, s, h, hq => AWc.mono h hq
  | Q, Q', .weak b, s, ⟨s', h1, h2⟩, hq => ⟨s', h1, wpC_mono Q Q' b s' h2 hq⟩
  | Q, Q', .reg d rs keep, s, h, hq => runL_mono h (fun s fs ⟨h1, h2⟩ => ⟨h1, hq _ _ h2⟩)
  | Q, Q', .block i b, s, h, hq => wpC_mono (blockK i Q) (blockK i Q') b s h (fun e s he => by
    cases e with
    | exit j =>
      simp only [blockK] at he ⊢
      split
      · rename_i hj; rw [if_pos hj] at he; exact hq _ _ he
      · rename_i hj; rw [if_neg hj] at he; exact hq _ _ he
    | _ => exact hq _ _ he)
  | Q, Q', .seq a b, s, h, hq => wpC_mono _ _ a s h (fun e s he => by
    cases e with
    | normal => exact wpC_mono _ _ b s he hq
    | _ => exact hq _ _ he)
  | Q, Q', .cond c a b, s, h, hq => by
    rw [wpC] at h ⊢
    unfold condK at h ⊢
    split
    · rename_i t ht
      rw [ht] at h
      exact ⟨fun e => wpC_mono _ _ a s (h.1 e) hq, fun e => wpC_mono _ _ b s (h.2 e) hq⟩
    · rename_i hb
      split at h
      · rename_i t ht; exact absurd ht (hb t)
      · exact h
def regC (d : Bool) (keep : List Nat) (nx : Nat) (Q : Exit → ASt → Prop) : ASt → List Foot → Prop := fun s fs => (d = true → fsOK fs = true) ∧ Q .normal ⟨envOf (keep.map fun k => (k, s.env k)), s.σ, nx⟩
def contL (P : Program) (nx : Nat) (rs : List RO) (k : Nat) (st : ASt) (fs : List Foot) (Q : ASt → List Foot → Prop) (d : Option Nat) (lk pr : List Nat) : AV → List Nat → List (Nat × Option AObj) → Prop :=
  fun x R W => runL P nx rs (k + 1) ⟨putE st.env d x, app st.σ W, st.nx⟩ (⟨k, d, lk, pr, R, W.map (·.1)⟩ :: fs) Q
def consK (id : Nat) (K : AV → List Nat → List (Nat × Option AObj) → Prop) : AV → List Nat → List (Nat × Option AObj) → Prop := fun r R W => K r (id :: R) W
def rdK (o : Option AObj) (k : AObj → AM) (σ : Heap) (K : AV → List Nat → List (Nat × Option AObj) → Prop) : Prop := match o with | some o => (k o).runK σ K | none => False
def guardL (P : Program) (nx : Nat) (a : AV) (want : Bool) (s : Nat) (op : AO) (rs : List RO) (k : Nat) (st : ASt) (fs : List Foot) (Q : ASt → List Foot → Prop) (d : Option Nat) (lk pr : List Nat) : Prop :=
  guardK a want (execL P (st.know s want) op (nx + 100000 * k) (contL P nx rs k (st.know s want) fs Q d lk pr)) (runL P nx rs (k + 1) ⟨putE (st.know s (!want)).env d (.v undef), st.σ, st.nx⟩ (⟨k, d, lk, pr, [], []⟩ :: fs) Q)
    (runL P nx rs (k + 1) ⟨putE st.env d (.v undef), st.σ, st.nx⟩ (⟨k, d, lk, pr, [], []⟩ :: fs) Q)
def condC (P : Program) (N m : Nat) (a : AV) (x y : AC) (st : ASt) (Q : Exit → ASt → Prop) : Prop := condK a (wpC P N m x st Q) (wpC P N m y st Q)

theorem s_seq {a b : AC} : wpC P N m (.seq a b) st Q = wpC P N m a st (seqC P N m b Q) := _root_.id rfl
theorem s_skip : wpC P N m .skip st Q = Q .normal st := _root_.id rfl
theorem s_ret : wpC P N m .ret st Q = Q .ret st := _root_.id rfl
theorem s_exit {i : Nat} : wpC P N m (.exit i) st Q = Q (.exit i) st := _root_.id rfl
theorem s_rfunc {g : Operand} {ps : List Nat} {mv : List (Nat × Operand)} {b : AC} : wpC P N m (.rfunc g ps mv b) st Q = AWc P N m (.rfunc g ps mv b) st Q := _root_.id rfl
theorem s_rfuncC {g : Operand} {ps : List Nat} {a b : AC} : wpC P N m (.rfuncC g ps a b) st Q = AWc P N m (.rfuncC g ps a b) st Q := _root_.id rfl
theorem s_weak {b : AC} : wpC P N m (.weak b) st Q = ∃ st', Weak N m st st' ∧ wpC P N m b st' Q := _root_.id rfl
theorem s_block {b : AC} {i : Nat} : wpC P N m (.block i b) st Q = wpC P N m b st (blockK i Q) := _root_.id rfl
theorem s_cond {a b : AC} {o : Operand} : wpC P N m (.cond o a b) st Q = condC P N m (evA st.env o) a b st Q := _root_.id rfl
theorem s_reg {d : Bool} {rs : List RO} {keep : List Nat} : wpC P N m (.reg d rs keep) st Q = runL P st.nx rs 0 st [] (regC d keep (st.nx + 100000 * rs.length) Q) := _root_.id rfl
theorem s_seqC {b : AC} : seqC P N m b Q .normal s = wpC P N m b s Q := _root_.id rfl
theorem s_seqC_exit {b : AC} {i : Nat} : seqC P N m b Q (.exit i) s = Q (.exit i) s := _root_.id rfl
theorem s_seqC_ret {b : AC} : seqC P N m b Q .ret s = Q .ret s := _root_.id rfl
theorem s_blockK_normal {i : Nat} : blockK i Q .normal s = Q .normal s := _root_.id rfl
theorem s_blockK_ret {i : Nat} : blockK i Q .ret s = Q .ret s := _root_.id rfl
theorem s_blockK_exit {i j : Nat} : blockK i Q (.exit j) s = if j = i then Q .normal s else Q (.exit j) s := _root_.id rfl
theorem s_regC_text {keep : List Nat} {n : Nat} {fs : List Foot} : regC false keep n Q s fs = Q .normal ⟨envOf (keep.map fun k => (k, s.env k)), s.σ, n⟩ := by simp [regC]
theorem s_regC_draw {keep : List Nat} {n : Nat} {fs : List Foot} : regC true keep n Q s fs = (fsOK fs = true ∧ Q .normal ⟨envOf (keep.map fun k => (k, s.env k)), s.σ, n⟩) := by simp [regC]
theorem s_nil {fs : List Foot} {R : ASt → List Foot → Prop} : runL P nx [] k st fs R = R st fs := _root_.id rfl
theorem s_none {d : Option Nat} {op : AO} {lk pr : List Nat} {rs : List RO} {fs : List Foot} {R : ASt → List Foot → Prop} : runL P nx (⟨d, op, none, lk, pr⟩ :: rs) k st fs R = execL P st op (nx + 100000 * k) (contL P nx rs k st fs R d lk pr) := _root_.id rfl
theorem s_some {d : Option Nat} {op : AO} {lk pr : List Nat} {rs : List RO} {fs : List Foot} {R : ASt → List Foot → Prop} {g : Nat} {want : Bool} : runL P nx (⟨d, op, some (g, want), lk, pr⟩ :: rs) k st fs R = guardL P nx (st.env g) want g op rs k st fs R d lk pr := _root_.id rfl
theorem s_cont {rs : List RO} {fs : List Foot} {R : ASt → List Foot → Prop} {d : Option Nat} {lk pr : List Nat} {x : AV} {Rd : List Nat} {W : List (Nat × Option AObj)} : contL P nx rs k st fs R d lk pr x Rd W = runL P nx rs (k + 1) ⟨putE st.env d x, app st.σ W, st.nx⟩ (⟨k, d, lk, pr, Rd, W.map (·.1)⟩ :: fs) R := _root_.id rfl
theorem s_guard {t want : Bool} {g : Nat} {op : AO} {rs : List RO} {fs : List Foot} {R : ASt → List Foot → Prop} {d : Option Nat} {lk pr : List Nat} : guardL P nx (.v (.bool t)) want g op rs k st fs R d lk pr =
    if t = want then execL P (st.know g want) op (nx + 100000 * k) (contL P nx rs k (st.know g want) fs R d lk pr) else runL P nx rs (k + 1) ⟨putE (st.know g (!want)).env d (.v (.tuple #[])), st.σ, st.nx⟩ (⟨k, d, lk, pr, [], []⟩ :: fs) R := by
  unfold guardL guardK
  cases t <;> cases want <;> simp [undef]
theorem s_guardU {tt : Array Value} {want : Bool} {g : Nat} {op : AO} {rs : List RO} {fs : List Foot} {R : ASt → List Foot → Prop} {d : Option Nat} {lk pr : List Nat} : guardL P nx (.v (.tuple tt)) want g op rs k st fs R d lk pr =
    runL P nx rs (k + 1) ⟨putE st.env d (.v (.tuple #[])), st.σ, st.nx⟩ (⟨k, d, lk, pr, [], []⟩ :: fs) R := _root_.id rfl
theorem s_condC {t : Bool} {a b : AC} : condC P N m (.v (.bool t)) a b st Q = if t = true then wpC P N m a st Q else wpC P N m b st Q := by
  unfold condC condK
  cases t <;> simp
theorem s_kret {r : AV} {W : List (Nat × Option AObj)} : (AM.ret r W).runK σ K = K r [] W := _root_.id rfl
theorem s_kfail : AM.fail.runK σ K = False := _root_.id rfl
theorem s_krd {f : AObj → AM} : (AM.rd id f).runK σ K = rdK (σ id) f σ (consK id K) := by
  rw [AM.runK]; unfold rdK consK; cases σ id <;> rfl
theorem s_rdK {f : AObj → AM} {y : Bool} {e : Nat} {cells : List AV} : rdK (some (.row y e cells)) f σ K = (f (.row y e cells)).runK σ K := _root_.id rfl
theorem s_consK {r : AV} {R : List Nat} {W : List (Nat × Option AObj)} : consK id K r R W = K r (id :: R) W := _root_.id rfl
theorem s_kite {c : Prop} [Decidable c] {a b : AM} : (if c then a else b).runK σ K = if c then a.runK σ K else b.runK σ K := by split <;> rfl
theorem s_mv {x : Operand} : execL P st (.mv x) nb K = K (evA st.env x) [] [] := _root_.id rfl
theorem s_pick {a b c : Operand} : execL P st (.pick a b c) nb K = (pickA (evA st.env a) (evA st.env b) (evA st.env c)).runK st.σ K := _root_.id rfl
theorem s_new {e : Nat} {z : List Value} : execL P st (.new e z) nb K = K (.op nb 0) [] [(nb, some (.row true e (z.map .v)))] := _root_.id rfl
theorem s_box {e : Nat} {x : Operand} : execL P st (.box e x) nb K = (boxA nb e (evA st.env x)).runK st.σ K := _root_.id rfl
theorem s_build {z : List Value} {ps : List (Nat × Nat × Operand)} : execL P st (.build z ps) nb K = (match fillA (evA st.env) (z.map .v) ps with | some l => AM.ret (.agg l) [] | none => .fail).runK st.σ K := _root_.id rfl
theorem s_bslice {e sz n : Nat} {z : List Value} {ps : List (Nat × Nat × Operand)} : execL P st (.bslice e sz n z ps) nb K = (match fillA (evA st.env) (z.map .v) ps with | some l => AM.ret (.os nb 0 n sz) [(nb, some (.row true e l))] | none => .fail).runK st.σ K := _root_.id rfl
theorem s_load {ag : Bool} {n : Nat} {a : Operand} : execL P st (.load ag n a) nb K = (loadA ag n (evA st.env a)).runK st.σ K := _root_.id rfl
theorem s_store {n : Nat} {a x : Operand} : execL P st (.store n a x) nb K = (storeA n (evA st.env a) (evA st.env x)).runK st.σ K := _root_.id rfl
theorem s_foff {n : Nat} {a : Operand} : execL P st (.foff n a) nb K = (foffA n (evA st.env a)).runK st.σ K := _root_.id rfl
theorem s_idx {n : Nat} {a x : Operand} : execL P st (.idx n a x) nb K = (idxA n (evA st.env a) (evA st.env x)).runK st.σ K := _root_.id rfl
theorem s_fld {ag : Bool} {off n : Nat} {x : Operand} : execL P st (.fld ag off n x) nb K = (fldA ag off n (evA st.env x)).runK st.σ K := _root_.id rfl
theorem s_bin {o : BinOp} {x y : Operand} : execL P st (.bin o x y) nb K = (binA o (evA st.env x) (evA st.env y)).runK st.σ K := _root_.id rfl
theorem s_beq {g : Bool} {x y : Operand} : execL P st (.beq g x y) nb K = (beqA g (evA st.env x) (evA st.env y)).runK st.σ K := _root_.id rfl
theorem s_eqs {g : Bool} {ks : List EK} {x y : Operand} : execL P st (.eqs g ks x y) nb K = (eqsA g ks (evA st.env x) (evA st.env y)).runK st.σ K := _root_.id rfl
theorem s_isnil {g : Bool} {z : Value} {x : Operand} : execL P st (.isnil g z x) nb K = (isnilA g z (evA st.env x)).runK st.σ K := _root_.id rfl
theorem s_un {o : UnOp} {x : Operand} : execL P st (.un o x) nb K = (unA o (evA st.env x)).runK st.σ K := _root_.id rfl
theorem s_conv {i : IntKind} {x : Operand} : execL P st (.conv i x) nb K = (convA i (evA st.env x)).runK st.σ K := _root_.id rfl
theorem s_len {x : Operand} : execL P st (.len false x) nb K = (lenA (evA st.env x)).runK st.σ K := _root_.id rfl
theorem s_slen {x : Operand} : execL P st (.len true x) nb K = (slenA (evA st.env x)).runK st.σ K := _root_.id rfl
theorem s_append {e sz b : Nat} {x y : Operand} : execL P st (.append e sz b x y) nb K = (srcA sz (evA st.env y) (appA nb e sz b (evA st.env x))).runK st.σ K := _root_.id rfl
theorem s_ext {i : Nat} {x : Operand} : execL P st (.ext i x) nb K = (extA i (evA st.env x)).runK st.σ K := _root_.id rfl
theorem s_slice {sz : Nat} {x : Operand} {lo hi : Option Operand} : execL P st (.slice sz x lo hi) nb K = (sliceA sz (evA st.env x) (lo.map (evA st.env)) (hi.map (evA st.env))).runK st.σ K := _root_.id rfl
theorem s_mksl {e sz b : Nat} {z : List Value} {n c : Operand} : execL P st (.mksl e sz b z n c) nb K = (mkslA nb e sz b z (evA st.env n) (evA st.env c)).runK st.σ K := _root_.id rfl
theorem s_clo {f : Nat} {caps : List Operand} : execL P st (.clo f caps) nb K = K (.fn f (caps.map (evA st.env))) [] [] := _root_.id rfl
theorem s_sconv {x : Operand} : execL P st (.sconv x) nb K = (sconvA (evA st.env x)).runK st.σ K := _root_.id rfl
theorem s_b2s {x : Operand} : execL P st (.b2s x) nb K = (b2sA (evA st.env x)).runK st.σ K := _root_.id rfl
theorem s_mm {mx : Bool} {x y : Operand} : execL P st (.mm mx x y) nb K = (mmA mx (evA st.env x) (evA st.env y)).runK st.σ K := _root_.id rfl
theorem s_nilc {x : Operand} : execL P st (.nilc x) nb K = (nilA (evA st.env x)).runK st.σ K := _root_.id rfl
theorem s_call {f : Nat} {args : List Operand} : execL P st (.call f args) nb K = ∃ m, ASound P f (args.map (evA st.env)) nb m ∧ m.runK st.σ K := _root_.id rfl
theorem s_callv {g : Operand} {args : List Operand} : execL P st (.callv g args) nb K = ∃ f caps m, evA st.env g = .fn f caps ∧ ASound P f (args.map (evA st.env) ++ caps) nb m ∧ m.runK st.σ K := _root_.id rfl
theorem s_tmp {env : Nat → AV} {t : Nat} : evA env (.tmp t) = env t := _root_.id rfl
theorem s_const {env : Nat → AV} {v : Value} : evA env (.const v) = .v v := _root_.id rfl
theorem s_func {env : Nat → AV} {f : Nat} : evA env (.func f) = .fn f [] := _root_.id rfl
theorem s_put {env : Nat → AV} {d t : Nat} {x : AV} : putE env (some d) x t = if t = d then x else env t := _root_.id rfl
theorem s_put0 {env : Nat → AV} {x : AV} : putE env none x = env := _root_.id rfl
theorem s_know {g n : Nat} {b : Bool} {e : Nat → AV} : (ASt.mk e σ n).know g b = ⟨putE e (some g) (.v (.bool b)), σ, n⟩ := _root_.id rfl
theorem s_envOf0 {t : Nat} : envOf [] t = .any := _root_.id rfl
theorem s_envOf {t i : Nat} {x : AV} {l : List (Nat × AV)} : envOf ((i, x) :: l) t = if t = i then x else envOf l t := _root_.id rfl
theorem s_heapOf0 {t : Nat} : heapOf [] t = none := _root_.id rfl
theorem s_heapOf {t i : Nat} {x : AObj} {l : List (Nat × AObj)} : heapOf ((i, x) :: l) t = if t = i then some x else heapOf l t := _root_.id rfl
def put1 (σ : Heap) (i : Nat) (o : Option AObj) : Heap := fun k => if k = i then o else σ k
theorem s_put1 {i k : Nat} {o : Option AObj} : put1 σ i o k = if k = i then o else σ k := _root_.id rfl
theorem s_app0 : app σ [] = σ := _root_.id rfl
theorem s_app1 {i : Nat} {o : Option AObj} {W : List (Nat × Option AObj)} : app σ ((i, o) :: W) = app (put1 σ i o) W := _root_.id rfl

def nilLike : AV → Prop
  | .fs _ cs n => cs = [] ∧ n = 0
  | _ => False
def oldLike : AV → AV → Prop
  | .fs true cs n, .fs false cs' n' => cs = cs' ∧ n = n'
  | _, _ => False
theorem oldLike_imp {a b : AV} (h : oldLike a b) : Imp a b := by
  unfold oldLike at h
  split at h
  · obtain ⟨rfl, rfl⟩ := h
    exact Imp.fs (fun h => by cases h) rfl (fun j a' hj => ⟨a', hj, Imp.refl a'⟩)
  · exact h.elim
/-- what is known now says what is wanted, in other names -/
def okL (re : List (Nat × Nat)) (env : Nat → AV) : List (Nat × AV) → Prop
  | [] => True
  | (t, v) :: r => (Al (fun i => i ∈ re.map (·.1)) (env t) ∧ (ren (rn re) (env t) = v ∨ (env t = .v (.slice none 0 0) ∧ nilLike v) ∨ oldLike (ren (rn re) (env t)) v)) ∧ okL re env r
def rowIs (re : List (Nat × Nat)) (o : Option AObj) (y : Bool) (e : Nat) (cells : List AV) : Prop :=
  match o with
  | some (.row y' e' cells0) => (y' = y ∧ e' = e) ∧ AlL (fun i => i ∈ re.map (·.1)) cells0 ∧ renL (rn re) cells0 = cells
  | none => False
def okH (re : List (Nat × Nat)) (σ : Heap) : List (Nat × AObj) → Prop
  | [] => True
  | (j, .row y e cells) :: r => (match re.find? (fun p => p.2 == j) with | some p => rowIs re (σ p.1) y e cells | none => False) ∧ okH re σ r
theorem okL_mem {re : List (Nat × Nat)} {env : Nat → AV} : ∀ {l : List (Nat × AV)}, okL re env l → ∀ t v, (t, v) ∈ l → Al (fun i => i ∈ re.map (·.1)) (env t) ∧ Imp (ren (rn re) (env t)) v
  | [], _, t, v, h => by cases h
  | (t', v') :: r, h, t, v, hm => by
    rcases List.mem_cons.1 hm with e | e
    · cases e
      refine ⟨h.1.1, ?_⟩
      rcases h.1.2 with h9 | ⟨h9, h8⟩ | h9
      · rw [h9]; exact Imp.refl _
      · rw [h9]
        cases v' with
        | fs fr cs n =>
          obtain ⟨rfl, rfl⟩ := h8
          exact Imp.nil fr
        | _ => exact h8.elim
      · exact oldLike_imp h9
    · exact okL_mem h.2 t v e
theorem okH_mem {re : List (Nat × Nat)} {σ : Heap} : ∀ {l : List (Nat × AObj)}, okH re σ l → ∀ j o, (j, o) ∈ l → ∃ i y e cells, (i, j) ∈ re ∧ σ i = some (.row y e cells) ∧ AlL (fun i => i ∈ re.map (·.1)) cells ∧ o = .row y e (renL (rn re) cells)
  | [], _, j, o, h => by cases h
  | (j', .row y e cells) :: r, h, j, o, hm => by
    rcases List.mem_cons.1 hm with e1 | e1
    · cases e1
      have h1 := h.1
      split at h1
      · rename_i p hp
        unfold rowIs at h1
        split at h1
        · rename_i y' e' cells0 hs
          obtain ⟨⟨rfl, rfl⟩, h2, h3⟩ := h1
          have hpm := List.mem_of_find?_eq_some hp
          have hpj : p.2 = j' := by simpa using List.find?_some hp
          exact ⟨p.1, y', e', cells0, by rw [← hpj]; exact hpm, hs, h2, by rw [h3]⟩
        · exact h1.elim
      · exact h1.elim
    · exact okH_mem h.2 j o e1
theorem Weak.calc {st : ASt} (re : List (Nat × Nat)) {l : List (Nat × AV)} {h : List (Nat × AObj)} {nx : Nat} (hd : ((re.map (·.1)).Nodup ∧ (re.map (·.2)).Nodup) ∧ (∀ p ∈ re, (p.1 < m → p.2 = p.1) ∧ (m ≤ p.1 → m ≤ p.2) ∧ p.2 < nx) ∧ m ≤ nx)
    (hl : okL re st.env l) (hh : okH re st.σ h) : Weak N m st ⟨envOf l, heapOf h, nx⟩ := Weak.to re l h nx hd.1.1 hd.1.2 hd.2.1 hd.2.2 (okL_mem hl) (okH_mem hh)
def okV (j sz : Nat) (env : Nat → AV) : List (Nat × AV) → Prop
  | [] => True
  | (t, v) :: r => (v = env t ∨ (env t = .v (.slice none 0 0) ∧ v = .os j 0 0 sz)) ∧ okV j sz env r
def vtL (j sz : Nat) : List AV → List AV → Prop
  | [], [] => True
  | a :: r, b :: q => (b = a ∨ (a = .v (.slice none 0 0) ∧ b = .os j 0 0 sz)) ∧ vtL j sz r q
  | _, _ => False
def rowVt (j sz : Nat) (o : Option AObj) (y : Bool) (e : Nat) (cells : List AV) : Prop :=
  match o with
  | some (.row y' e' cells0) => (y' = y ∧ e' = e) ∧ (cells0 = cells ∨ vtL j sz cells0 cells)
  | none => False
def okHV (j sz : Nat) (σ : Heap) : List (Nat × AObj) → Prop
  | [] => True
  | (i, .row y e cells) :: r => (i < j ∧ rowVt j sz (σ i) y e cells) ∧ okHV j sz σ r
theorem vtL_get {j sz : Nat} : ∀ {l l' : List AV}, vtL j sz l l' → l'.length = l.length ∧ ∀ (k : Nat) x', l'[k]? = some x' → ∃ x, l[k]? = some x ∧ Vt0 j sz x x'
  | [], [], _ => ⟨rfl, fun k x h => by simp at h⟩
  | a :: r, b :: q, h => by
    obtain ⟨h1, h2⟩ := vtL_get h.2
    refine ⟨by simp [h1], fun k x' hk => ?_⟩
    cases k with
    | zero => simp at hk; subst hk; exact ⟨a, rfl, h.1⟩
    | succ k => simpa using h2 k x' (by simpa using hk)
  | [], b :: q, h => h.elim
  | a :: r, [], h => h.elim
theorem Weak.virtC {st : ASt} (e sz : Nat) {l : List (Nat × AV)} {h : List (Nat × AObj)} (hl : okV st.nx sz st.env l) (hh : okHV st.nx sz st.σ h) (hneM : e ≠ MAPE := by decide) : Weak N m st ⟨envOf l, heapOf ((st.nx, .row true e []) :: h), st.nx + 1⟩ := by
  refine Weak.virt e sz hneM l h (fun t v hm => ?_) (fun i o hm => ?_)
  · induction l with
    | nil => cases hm
    | cons x l ih =>
      obtain ⟨t', v'⟩ := x
      rcases List.mem_cons.1 hm with e1 | e1
      · cases e1; exact hl.1
      · exact ih hl.2 e1
  · induction h with
    | nil => cases hm
    | cons x h ih =>
      obtain ⟨i', ⟨y, e', cells⟩⟩ := x
      rcases List.mem_cons.1 hm with e1 | e1
      · cases e1
        obtain ⟨h1, h2⟩ := hh.1
        unfold rowVt at h2
        split at h2
        · rename_i y2 e2 cells0 hs
          obtain ⟨⟨rfl, rfl⟩, h3⟩ := h2
          refine ⟨h1, _, _, cells0, cells, hs, rfl, ?_⟩
          rcases h3 with rfl | h3
          · exact ⟨rfl, fun k x' hk => ⟨x', hk, .inl rfl⟩⟩
          · exact vtL_get h3
        · exact h2.elim
      · exact ih hh.2 e1
def fzOne (id : Nat) (y : Bool) (cells : List AV) (a b : AV) : Prop :=
  b = a ∨ (match a with
    | .os i off n sz => i = id ∧ b = .fs y ((cells.drop off).take (n * sz)) n
    | .op i off => i = id ∧ b = .fp y cells off
    | _ => False)
def fzL (id : Nat) (y : Bool) (cells : List AV) : List AV → List AV → Prop
  | [], [] => True
  | a :: r, b :: q => fzOne id y cells a b ∧ fzL id y cells r q
  | _, _ => False
def fzV (id : Nat) (y : Bool) (cells : List AV) (a b : AV) : Prop :=
  fzOne id y cells a b ∨ (match a, b with | .agg l, .agg l' => fzL id y cells l l' | _, _ => False)
def okF (id : Nat) (y : Bool) (cells : List AV) (env : Nat → AV) : List (Nat × AV) → Prop
  | [] => True
  | (t, v) :: r => fzV id y cells (env t) v ∧ okF id y cells env r
def rowFz (id : Nat) (y0 : Bool) (cs0 : List AV) (o : Option AObj) (y : Bool) (e : Nat) (cells : List AV) : Prop :=
  match o with
  | some (.row y' e' cells0) => (y' = y ∧ e' = e) ∧ (cells0 = cells ∨ fzL id y0 cs0 cells0 cells ∨ ∃ k n sz, cells0[k]? = some (.os id 0 n sz) ∧ cells = cells0.set k (.fs y0 (cs0.take (n * sz)) n))
  | none => False
def okHF (id : Nat) (y : Bool) (cs : List AV) (σ : Heap) : List (Nat × AObj) → Prop
  | [] => True
  | (i, .row y' e cells) :: r => (i ≠ id ∧ rowFz id y cs (σ i) y' e cells) ∧ okHF id y cs σ r
theorem fzOne_spec {id : Nat} {y : Bool} {cells : List AV} {a b : AV} (h : fzOne id y cells a b) : Fz0 id y cells a b := by
  rcases h with h | h
  · exact .inl h
  · cases a with
    | os i off n sz => obtain ⟨rfl, rfl⟩ := h; exact .inr (.inr (.inl ⟨off, n, sz, rfl, rfl⟩))
    | op i off => obtain ⟨rfl, rfl⟩ := h; exact .inr (.inr (.inr ⟨off, rfl, rfl⟩))
    | _ => exact h.elim
theorem fzL_get {id : Nat} {y : Bool} {cells : List AV} : ∀ {l l' : List AV}, fzL id y cells l l' → l'.length = l.length ∧ ∀ (k : Nat) x', l'[k]? = some x' → ∃ x, l[k]? = some x ∧ Fz0 id y cells x x'
  | [], [], _ => ⟨rfl, fun k x h => by simp at h⟩
  | a :: r, b :: q, h => by
    obtain ⟨h1, h2⟩ := fzL_get h.2
    refine ⟨by simp [h1], fun k x' hk => ?_⟩
    cases k with
    | zero => simp at hk; subst hk; exact ⟨a, rfl, fzOne_spec h.1⟩
    | succ k => simpa using h2 k x' (by simpa using hk)
  | [], b :: q, h => h.elim
  | a :: r, [], h => h.elim
/-- row id is written no more -/
theorem Weak.freezeC {st : ASt} (id : Nat) {y : Bool} {e : Nat} {cells : List AV} (hid : st.σ id = some (.row y e cells)) {l : List (Nat × AV)} {h : List (Nat × AObj)} (hl : okF id y cells st.env l) (hh : okHF id y cells st.σ h) : Weak N m st ⟨envOf l, heapOf h, st.nx⟩ := by
  refine Weak.freeze id hid l h (fun t v hm => ?_) (fun i o hm => ?_)
  · induction l with
    | nil => cases hm
    | cons x l ih =>
      obtain ⟨t', v'⟩ := x
      rcases List.mem_cons.1 hm with e1 | e1
      · cases e1
        rcases hl.1 with h9 | h9
        · exact .inl (fzOne_spec h9)
        · split at h9
          · rename_i hq
            obtain ⟨k1, k2⟩ := fzL_get h9
            exact .inr ⟨_, _, hq, rfl, k1, k2⟩
          · exact h9.elim
      · exact ih hl.2 e1
  · induction h with
    | nil => cases hm
    | cons x h ih =>
      obtain ⟨i', ⟨y1, e1, cs1⟩⟩ := x
      rcases List.mem_cons.1 hm with e2 | e2
      · cases e2
        obtain ⟨h1, h2⟩ := hh.1
        unfold rowFz at h2
        split at h2
        · rename_i y2 e2 cells0 hs
          obtain ⟨⟨rfl, rfl⟩, h3⟩ := h2
          refine ⟨h1, _, _, cells0, cs1, hs, rfl, ?_⟩
          rcases h3 with rfl | h3 | ⟨k, n, sz, h3, rfl⟩
          · exact ⟨rfl, fun k x' hk => ⟨x', hk, .inl rfl⟩⟩
          · exact fzL_get h3
          · refine ⟨by simp, fun k' x' hk => ?_⟩
            rw [List.getElem?_set] at hk
            split at hk
            · rename_i e9
              subst e9
              split at hk
              · cases hk; exact ⟨_, h3, .inr (.inr (.inl ⟨0, n, sz, rfl, by rw [List.drop_zero]⟩))⟩
              · cases hk
            · exact ⟨x', hk, .inl rfl⟩
        · exact h2.elim
      · exact ih hh.2 e2
theorem AlL_append {p : Nat → Prop} {a b : List AV} : AlL p (a ++ b) = (AlL p a ∧ AlL p b) := by
  induction a with
  | nil => simp [AlL]
  | cons x a ih => simp [AlL, ih, and_assoc]
theorem renL_append {ρ : Nat → Nat} {a b : List AV} : renL ρ (a ++ b) = renL ρ a ++ renL ρ b := by simp [renL_map]
/-- a loop through a family of states -/
def famC {κ : Type} (N m : Nat) (S : κ → ASt) (I : κ → Prop) (μ : κ → Nat) (k : κ) (Q : Exit → ASt → Prop) : Exit → ASt → Prop
  | .normal, s => ∃ k', μ k' < μ k ∧ I k' ∧ Weak N m s (S k')
  | e, s => Q e s
theorem AWc.family {κ : Type} {b : AC} (S : κ → ASt) (I : κ → Prop) (μ : κ → Nat) (k0 : κ) (hi : I k0) (hw : Weak N m st (S k0)) (body : ∀ k, I k → wpC P N m b (S k) (famC N m S I μ k Q)) : AWc P N m (.loop b) st Q := by
  refine AWc.loop (fun n s => ∃ k, I k ∧ μ k = n ∧ s = S k) (μ k0) ⟨S k0, hw, k0, hi, rfl, rfl⟩ ?_
  rintro n s ⟨k, h1, rfl, rfl⟩
  have h := body k h1
  have key : ∀ (Q Q' : Exit → ASt → Prop) (ac : AC) (s : ASt), wpC P N m ac s Q → (∀ e s, Q e s → Q' e s) → wpC P N m ac s Q' := wpC_mono
  refine key _ _ _ _ h ?_
  intro e s hq
  cases e with
  | normal =>
    obtain ⟨k', e1, e2, e3⟩ := hq
    exact ⟨μ k', e1, S k', e3, k', e2, rfl, rfl⟩
  | _ => exact hq
theorem s_famC_exit {κ : Type} {S : κ → ASt} {I : κ → Prop} {μ : κ → Nat} {k : κ} {i : Nat} : famC N m S I μ k Q (.exit i) s = Q (.exit i) s := _root_.id rfl
theorem s_famC_ret {κ : Type} {S : κ → ASt} {I : κ → Prop} {μ : κ → Nat} {k : κ} : famC N m S I μ k Q .ret s = Q .ret s := _root_.id rfl
theorem famC_next {κ : Type} {S : κ → ASt} {I : κ → Prop} {μ : κ → Nat} {k : κ} (k' : κ) (h1 : μ k' < μ k) (h2 : I k') (h3 : Weak N m s (S k')) : famC N m S I μ k Q .normal s := ⟨k', h1, h2, h3⟩
theorem Ends.rows1 {rs : List RV} {r r0 : AV} {e : Exit} {i : Nat} {y : Bool} {el : Nat} {cells : List AV} (he : e = .normal ∨ e = .ret) (h : (resL s rs).map tupOf = some r0) (hσ : s.σ i = some (.row y el cells)) (hp : PuL cells)
    (ha : Al (fun j => j ∈ [i]) r0) (hr : ren (rn [(i, nb)]) r0 = r) : Ends N rs nb r [(nb, some (.row y el cells))] e s := by
  obtain ⟨l, h1, h2⟩ := Option.map_eq_some_iff.1 h
  refine ⟨he, s, Weak.refl s, [i], ⟨by simp, by simp, ⟨l, h1, by rw [h2]; exact ha, by rw [h2]; simp only [List.zipIdx_cons, List.zipIdx_nil]; rw [hr]; exact Imp.refl r⟩, [(y, el, cells)], rfl, rfl, fun k j hk => ?_⟩⟩
  cases k with
  | zero =>
    simp at hk
    subst hk
    refine ⟨y, el, cells, hσ, AlL.mono (fun _ h => h.elim) hp, cells, rfl, rfl, fun q a' hq => ⟨a', hq, ?_⟩⟩
    rw [ren_id (p := fun _ => False) (fun _ h => h.elim) (AlL_iff.1 hp a' (List.mem_of_getElem? hq))]
    exact Imp.refl a'
  | succ k => simp at hk
def ImpL : List AV → List AV → Prop
  | [], [] => True
  | a :: r, b :: q => Imp a b ∧ ImpL r q
  | _, _ => False
theorem ImpL_get : ∀ {l l' : List AV}, ImpL l l' → l'.length = l.length ∧ ∀ (k : Nat) x', l'[k]? = some x' → ∃ x, l[k]? = some x ∧ Imp x x'
  | [], [], _ => ⟨rfl, fun k x h => by simp at h⟩
  | a :: r, b :: q, h => by
    obtain ⟨h1, h2⟩ := ImpL_get h.2
    refine ⟨by simp [h1], fun k x' hk => ?_⟩
    cases k with
    | zero => simp at hk; subst hk; exact ⟨a, rfl, h.1⟩
    | succ k => simpa using h2 k x' (by simpa using hk)
  | [], b :: q, h => h.elim
  | a :: r, [], h => h.elim
theorem Imp.aggL {l l' : List AV} (h : ImpL l l') : Imp (.agg l) (.agg l') := Imp.agg (ImpL_get h).1 (ImpL_get h).2
theorem Imp.tupL {l l' : List AV} (h : ImpL l l') : Imp (.tup l) (.tup l') := Imp.tup (ImpL_get h).1 (ImpL_get h).2
theorem Imp.set {fr : Bool} {l : List AV} {n j : Nat} {a b : AV} (ha : l[j]? = some a) (h : Imp a b) : Imp (.fs fr l n) (.fs fr (l.set j b) n) := by
  refine Imp.fs (fun h => h) (by simp) (fun k x' hk => ?_)
  rw [List.getElem?_set] at hk
  split at hk
  · rename_i e
    subst e
    split at hk
    · cases hk; exact ⟨a, ha, h⟩
    · cases hk
  · exact ⟨x', hk, Imp.refl x'⟩
theorem s_mkif {t : Nat} {x : Operand} : execL P st (.mkif t x) nb K = K (.ifc t (evA st.env x)) [] [] := _root_.id rfl
theorem s_die : execL P st .die nb K = False := _root_.id rfl
theorem s_aidx {sz n : Nat} {x i : Operand} : execL P st (.aidx sz n x i) nb K = (aidxA sz n (evA st.env x) (evA st.env i)).runK st.σ K := _root_.id rfl
theorem s_cap {x : Operand} : execL P st (.cap x) nb K = (capA (evA st.env x)).runK st.σ K := _root_.id rfl
theorem s_appz {e sz b : Nat} {z : List Value} {x n : Operand} : execL P st (.appz e sz b z x n) nb K = (appzA nb e sz b z (evA st.env x) (evA st.env n)).runK st.σ K := _root_.id rfl
theorem s_copy {x y : Operand} : execL P st (.copy x y) nb K = (srcA 1 (evA st.env y) (copyA (evA st.env x))).runK st.σ K := _root_.id rfl
theorem s_slice0 {e sz : Nat} {x : Operand} : execL P st (.slice0 e sz x) nb K = (slice0A nb e sz (evA st.env x)).runK st.σ K := _root_.id rfl
theorem s_mkmap : execL P st .mkmap nb K = K (.mp nb) [] [(nb, some (.row true MAPE []))] := _root_.id rfl
theorem s_mlook {z : Value} {ok : Bool} {m k : Operand} : execL P st (.mlook z ok m k) nb K = (mlookA z ok (evA st.env m) (evA st.env k)).runK st.σ K := _root_.id rfl
theorem s_mupd {m k v : Operand} : execL P st (.mupd m k v) nb K = (mupdA (evA st.env m) (evA st.env k) (evA st.env v)).runK st.σ K := _root_.id rfl
theorem s_mlen {m : Operand} : execL P st (.mlen m) nb K = (mlenA (evA st.env m)).runK st.σ K := _root_.id rfl
theorem s_sslice {x : Operand} {lo hi : Option Operand} : execL P st (.sslice x lo hi) nb K = (ssliceA (evA st.env x) (lo.map (evA st.env)) (hi.map (evA st.env))).runK st.σ K := _root_.id rfl
theorem s_s2b {x : Operand} : execL P st (.s2b x) nb K = (s2bA (evA st.env x)).runK st.σ K := _root_.id rfl
theorem s_mlook0 {ks : List EK} {z : Value} {ok : Bool} {m k : Operand} : execL P st (.mlook0 ks z ok m k) nb K = (mlook0A ks z ok (evA st.env m) (evA st.env k)).runK st.σ K := _root_.id rfl
theorem s_sidx {x i : Operand} : execL P st (.sidx x i) nb K = (sidxA (evA st.env x) (evA st.env i)).runK st.σ K := _root_.id rfl
open Classical in
/-- the row named id is o: then am -/
noncomputable def rowM (id : Nat) (o : AObj) (am : AM) : AM := .rd id fun x => if x = o then am else .fail
open Classical in
noncomputable def rowK (x : Option AObj) (id : Nat) (o : AObj) (am : AM) (σ : Heap) (K : AV → List Nat → List (Nat × Option AObj) → Prop) : Prop := match x with | some x => if x = o then am.runK σ (consK id K) else False | none => False
open Classical in
theorem s_rowM {id : Nat} {o : AObj} {am : AM} : (rowM id o am).runK σ K = rowK (σ id) id o am σ K := by
  unfold rowM rowK
  rw [s_krd]
  unfold rdK
  cases σ id with
  | none => rfl
  | some x => simp only; split <;> rfl
open Classical in
theorem s_rowK {id : Nat} {o : AObj} {am : AM} : rowK (some o) id o am σ K = am.runK σ (consK id K) := by
  unfold rowK
  simp
/-- rows of one kind, named one behind the other -/
def famL (base k : Nat) (f : Nat → AObj) : List (Nat × AObj) := (List.range k).map fun j => (base + j, f j)
theorem heapOf_append {l l' : List (Nat × AObj)} {id : Nat} : heapOf (l ++ l') id = match heapOf l id with | some o => some o | none => heapOf l' id := by
  induction l with
  | nil => rfl
  | cons p l ih =>
    obtain ⟨k, o⟩ := p
    rw [List.cons_append, heapOf, heapOf]
    split
    · rfl
    · exact ih
theorem s_heapFam {base k id : Nat} {f : Nat → AObj} : heapOf (famL base k f) id = if base ≤ id ∧ id < base + k then some (f (id - base)) else none := by
  induction k with
  | zero => rw [if_neg (by omega)]; rfl
  | succ k ih =>
    unfold famL at ih ⊢
    rw [List.range_succ, List.map_append, heapOf_append, ih]
    by_cases h : base ≤ id ∧ id < base + k
    · rw [if_pos h, if_pos (by omega)]
    · rw [if_neg h]
      simp only [List.map_cons, List.map_nil, heapOf]
      by_cases h2 : id = base + k
      · rw [if_pos h2, if_pos (by omega), h2, Nat.add_sub_cancel_left]
      · rw [if_neg h2, if_neg (by omega)]
/-- the steps, in one -/
theorem SS : type_of% (And.intro @s_sslice (And.intro @s_s2b (And.intro @s_mlook0 (And.intro @s_mkmap (And.intro @s_mlook (And.intro @s_mupd (And.intro @s_mlen (And.intro @s_rfuncC (And.intro @s_rfunc (And.intro @s_seq (And.intro @s_mkif (And.intro @s_die (And.intro @s_aidx (And.intro @s_cap (And.intro @s_appz (And.intro @s_copy (And.intro @s_slice0 (And.intro @s_sidx (And.intro @s_rowM (And.intro @s_rowK (And.intro @s_heapFam (And.intro @s_skip (And.intro @s_ret (And.intro @s_exit (And.intro @s_block (And.intro @s_weak (And.intro @s_cond (And.intro @s_reg (And.intro @s_seqC (And.intro @s_seqC_exit (And.intro @s_seqC_ret (And.intro @s_blockK_normal (And.intro @s_blockK_ret (And.intro @s_blockK_exit (And.intro @s_regC_text (And.intro @s_regC_draw (And.intro @s_nil (And.intro @s_none (And.intro @s_some (And.intro @s_cont (And.intro @s_guard (And.intro @s_guardU (And.intro @s_condC (And.intro @s_kret (And.intro @s_kfail (And.intro @s_krd (And.intro @s_rdK (And.intro @s_consK (And.intro @s_kite (And.intro @s_mv (And.intro @s_pick (And.intro @s_new (And.intro @s_box (And.intro @s_build (And.intro @s_bslice (And.intro @s_load (And.intro @s_store (And.intro @s_foff (And.intro @s_idx (And.intro @s_fld (And.intro @s_bin (And.intro @s_beq (And.intro @s_eqs (And.intro @s_isnil (And.intro @s_un (And.intro @s_conv (And.intro @s_len (And.intro @s_slen (And.intro @s_append (And.intro @s_ext (And.intro @s_slice (And.intro @s_mksl (And.intro @s_clo (And.intro @s_nilc (And.intro @s_sconv (And.intro @s_b2s (And.intro @s_mm (And.intro @s_call (And.intro @s_callv (And.intro @s_tmp (And.intro @s_const (And.intro @s_func (And.intro @s_put (And.intro @s_put0 (And.intro @s_know (And.intro @s_envOf0 (And.intro @s_envOf (And.intro @s_heapOf0 (And.intro @s_heapOf (And.intro @s_put1 (And.intro @s_app0 (And.intro @s_app1 (And.intro @s_famC_exit (And.intro @s_famC_ret (And.intro @List.map_cons.{0,0} (And.intro @List.map_nil.{0,0} (And.intro @List.length_cons.{0} (And.intro @List.length_nil.{0} (And.intro @List.getElem?_cons_zero.{0} (And.intro @List.getElem?_cons_succ.{0} (And.intro @Option.getD_some.{0} (And.intro @Option.getD_none.{0} (And.intro @List.getElem?_nil.{0} (And.intro @List.set_cons_zero.{0} (And.intro @List.set_cons_succ.{0} (And.intro @Bool.not_true (And.intro @Bool.not_false (And.intro @decide_eq_true_eq (And.intro @decide_eq_false_iff_not (And.intro @Bool.true_eq_false (And.intro @Bool.false_eq_true (And.intro @Nat.zero_add (And.intro @Nat.add_zero (And.intro @Nat.zero_mul (And.intro @Int.toNat_natCast (And.intro @and_self (And.intro @and_true (And.intro @true_and (And.intro @Nat.le_refl @Bool.not_eq_eq_eq_not))))))))))))))))))))))))))))))))))))))))))))))))))))))))))))))))))))))))))))))))))))))))))))))))))))))))))))))))))))))) := (And.intro @s_sslice (And.intro @s_s2b (And.intro @s_mlook0 (And.intro @s_mkmap (And.intro @s_mlook (And.intro @s_mupd (And.intro @s_mlen (And.intro @s_rfuncC (And.intro @s_rfunc (And.intro @s_seq (And.intro @s_mkif (And.intro @s_die (And.intro @s_aidx (And.intro @s_cap (And.intro @s_appz (And.intro @s_copy (And.intro @s_slice0 (And.intro @s_sidx (And.intro @s_rowM (And.intro @s_rowK (And.intro @s_heapFam (And.intro @s_skip (And.intro @s_ret (And.intro @s_exit (And.intro @s_block (And.intro @s_weak (And.intro @s_cond (And.intro @s_reg (And.intro @s_seqC (And.intro @s_seqC_exit (And.intro @s_seqC_ret (And.intro @s_blockK_normal (And.intro @s_blockK_ret (And.intro @s_blockK_exit (And.intro @s_regC_text (And.intro @s_regC_draw (And.intro @s_nil (And.intro @s_none (And.intro @s_some (And.intro @s_cont (And.intro @s_guard (And.intro @s_guardU (And.intro @s_condC (And.intro @s_kret (And.intro @s_kfail (And.intro @s_krd (And.intro @s_rdK (And.intro @s_consK (And.intro @s_kite (And.intro @s_mv (And.intro @s_pick (And.intro @s_new (And.intro @s_box (And.intro @s_build (And.intro @s_bslice (And.intro @s_load (And.intro @s_store (And.intro @s_foff (And.intro @s_idx (And.intro @s_fld (And.intro @s_bin (And.intro @s_beq (And.intro @s_eqs (And.intro @s_isnil (And.intro @s_un (And.intro @s_conv (And.intro @s_len (And.intro @s_slen (And.intro @s_append (And.intro @s_ext (And.intro @s_slice (And.intro @s_mksl (And.intro @s_clo (And.intro @s_nilc (And.intro @s_sconv (And.intro @s_b2s (And.intro @s_mm (And.intro @s_call (And.intro @s_callv (And.intro @s_tmp (And.intro @s_const (And.intro @s_func (And.intro @s_put (And.intro @s_put0 (And.intro @s_know (And.intro @s_envOf0 (And.intro @s_envOf (And.intro @s_heapOf0 (And.intro @s_heapOf (And.intro @s_put1 (And.intro @s_app0 (And.intro @s_app1 (And.intro @s_famC_exit (And.intro @s_famC_ret (And.intro @List.map_cons.{0,0} (And.intro @List.map_nil.{0,0} (And.intro @List.length_cons.{0} (And.intro @List.length_nil.{0} (And.intro @List.getElem?_cons_zero.{0} (And.intro @List.getElem?_cons_succ.{0} (And.intro @Option.getD_some.{0} (And.intro @Option.getD_none.{0} (And.intro @List.getElem?_nil.{0} (And.intro @List.set_cons_zero.{0} (And.intro @List.set_cons_succ.{0} (And.intro @Bool.not_true (And.intro @Bool.not_false (And.intro @decide_eq_true_eq (And.intro @decide_eq_false_iff_not (And.intro @Bool.true_eq_false (And.intro @Bool.false_eq_true (And.intro @Nat.zero_add (And.intro @Nat.add_zero (And.intro @Nat.zero_mul (And.intro @Int.toNat_natCast (And.intro @and_self (And.intro @and_true (And.intro @true_and (And.intro @Nat.le_refl @Bool.not_eq_eq_eq_not)))))))))))))))))))))))))))))))))))))))))))))))))))))))))))))))))))))))))))))))))))))))))))))))))))))))))))))))))))))))
end Go.Proofs.YtonglhkiobibgaaGreatDoor
namespace Go.Proofs.YtonglhkiobibgaaGreatDoor
open Go.RowKit
variable {P : Program} {N : Nat}
theorem lt_of_blk {w : World} {b : Nat} {o : Obj} (h : w.heap[b]? = some o) : b < w.heap.size := (Array.getElem?_eq_some_iff.1 h).1
/-- how a body ends whose row 0 is the caller's -/
def EndsR (N : Nat) (rs : List RV) (nb : Nat) (r : AV) (W : List (Nat × Option AObj)) (o : AObj) (e : Exit) (s : ASt) : Prop := (e = .normal ∨ e = .ret) ∧ ∃ s', Weak N 1 s s' ∧ s'.σ 0 = some o ∧ ∃ is, 0 ∉ is ∧ Fin rs s' nb is r W
theorem EndsR.weak {rs : List RV} {nb : Nat} {r : AV} {W : List (Nat × Option AObj)} {o : AObj} {e : Exit} {s s' : ASt} (hw : Weak N 1 s s') (h : EndsR N rs nb r W o e s') : EndsR N rs nb r W o e s := by
  obtain ⟨h1, s2, h2, h3⟩ := h
  exact ⟨h1, s2, hw.trans h2, h3⟩
theorem EndsR.imp {rs : List RV} {nb : Nat} {r r0 : AV} {o : AObj} {e : Exit} {s : ASt} (he : e = .normal ∨ e = .ret) (h : (resL s rs).map tupOf = some r0) (hp : Pu r0) (hi : Imp r0 r) (h0 : s.σ 0 = some o) : EndsR N rs nb r [] o e s := by
  obtain ⟨l, h1, h2⟩ := Option.map_eq_some_iff.1 h
  exact ⟨he, s, Weak.refl s, h0, [], by simp, ⟨.nil, by simp, ⟨l, h1, by rw [h2]; exact Al.mono (fun _ h => h.elim) hp, by rw [h2, ren_id (p := fun _ => False) (fun _ h => h.elim) hp]; exact hi⟩, [], rfl, rfl, fun k i hk => by simp at hk⟩⟩
theorem EndsR.data {rs : List RV} {nb : Nat} {r : AV} {o : AObj} {e : Exit} {s : ASt} (he : e = .normal ∨ e = .ret) (h : (resL s rs).map tupOf = some r) (hp : Pu r) (h0 : s.σ 0 = some o) : EndsR N rs nb r [] o e s := EndsR.imp he h hp (Imp.refl r) h0
theorem EndsR.rows1 {rs : List RV} {nb : Nat} {r r0 : AV} {o : AObj} {e : Exit} {s : ASt} {i : Nat} {y : Bool} {el : Nat} {cells : List AV} (he : e = .normal ∨ e = .ret) (h : (resL s rs).map tupOf = some r0) (h0 : s.σ 0 = some o) (hi : i ≠ 0) (hσ : s.σ i = some (.row y el cells)) (hp : PuL cells)
    (ha : Al (fun j => j ∈ [i]) r0) (hr : ren (rn [(i, nb)]) r0 = r) : EndsR N rs nb r [(nb, some (.row y el cells))] o e s := by
  obtain ⟨l, h1, h2⟩ := Option.map_eq_some_iff.1 h
  refine ⟨he, s, Weak.refl s, h0, [i], by simp; exact fun h => hi h.symm, ⟨by simp, by simp, ⟨l, h1, by rw [h2]; exact ha, by rw [h2]; simp only [List.zipIdx_cons, List.zipIdx_nil]; rw [hr]; exact Imp.refl r⟩, [(y, el, cells)], rfl, rfl, fun k j hk => ?_⟩⟩
  cases k with
  | zero =>
    simp at hk
    subst hk
    refine ⟨y, el, cells, hσ, AlL.mono (fun _ h => h.elim) hp, cells, rfl, rfl, fun q a' hq => ⟨a', hq, ?_⟩⟩
    rw [ren_id (p := fun _ => False) (fun _ h => h.elim) (AlL_iff.1 hp a' (List.mem_of_getElem? hq))]
    exact Imp.refl a'
  | succ k => simp at hk
end Go.Proofs.YtonglhkiobibgaaGreatDoor
namespace Go.Proofs.YtonglhkiobibgaaGreatDoor
open Go.RowKit
variable {P : Program} {N m : Nat}
abbrev RW := Nat × Bool × Nat × List AV
noncomputable def rowsM : List RW → AM → AM
  | [], am => am
  | x :: r, am => rowM x.1 (.row x.2.1 x.2.2.1 x.2.2.2) (rowsM r am)
/-- what becomes of them -/
def outW : List RW → List (Option (List AV)) → List (Nat × Option AObj)
  | x :: r, o :: q => (x.1, o.map (.row x.2.1 x.2.2.1)) :: outW r q
  | _, _ => []
def rowsIn (k : Nat) : List RW → List (Nat × AObj)
  | [] => []
  | x :: r => (k, .row x.2.1 x.2.2.1 x.2.2.2) :: rowsIn (k + 1) r
def keepOk : List RW → List (Option (List AV)) → Nat → Heap → List Nat → Prop
  | [], [], _, _, _ => True
  | x :: r, some c :: q, k, σ, is => (σ k = some (.row x.2.1 x.2.2.1 c) ∧ k ∉ is ∧ PuL c) ∧ keepOk r q (k + 1) σ is
  | _ :: r, none :: q, k, σ, is => keepOk r q (k + 1) σ is
  | _, _, _, _, _ => False
theorem keepOk_get : ∀ {rws : List RW} {out : List (Option (List AV))} {k : Nat} {σ : Heap} {is : List Nat}, keepOk rws out k σ is → out.length = rws.length ∧ ∀ (j : Nat) (x : RW) c, rws[j]? = some x → out[j]? = some (some c) → σ (k + j) = some (.row x.2.1 x.2.2.1 c) ∧ k + j ∉ is ∧ PuL c
  | [], [], k, σ, is, _ => ⟨rfl, fun j x c h => by simp at h⟩
  | x :: r, some c :: q, k, σ, is, h => by
    obtain ⟨h1, h2⟩ := h
    obtain ⟨g1, g2⟩ := keepOk_get h2
    refine ⟨by simp [g1], fun j x' c' e1 e2 => ?_⟩
    cases j with
    | zero => simp at e1 e2; subst e1; subst e2; exact h1
    | succ j => simp at e1 e2; have := g2 j x' c' e1 e2; rwa [show k + (j + 1) = k + 1 + j from by omega]
  | x :: r, none :: q, k, σ, is, h => by
    obtain ⟨g1, g2⟩ := keepOk_get (rws := r) (out := q) (k := k + 1) h
    refine ⟨by simp [g1], fun j x' c' e1 e2 => ?_⟩
    cases j with
    | zero => simp at e2
    | succ j => simp at e1 e2; have := g2 j x' c' e1 e2; rwa [show k + (j + 1) = k + 1 + j from by omega]
  | [], _ :: _, _, _, _, h => h.elim
  | _ :: _, [], _, _, _, h => by cases h
theorem rowsIn_get : ∀ {rws : List RW} {k i : Nat} {o : AObj}, heapOf (rowsIn k rws) i = some o → ∃ j x, i = k + j ∧ rws[j]? = some x ∧ o = .row x.2.1 x.2.2.1 x.2.2.2
  | [], _, _, _, h => by cases h
  | x :: r, k, i, o, h => by
    rw [rowsIn, heapOf] at h
    split at h
    · rename_i e
      cases h
      exact ⟨0, x, by omega, rfl, rfl⟩
    · obtain ⟨j, x', e1, e2, e3⟩ := rowsIn_get h
      exact ⟨j + 1, x', by omega, by simpa using e2, e3⟩
theorem rowsIn_some : ∀ {rws : List RW} {k j : Nat} {x : RW}, rws[j]? = some x → heapOf (rowsIn k rws) (k + j) = some (.row x.2.1 x.2.2.1 x.2.2.2)
  | [], _, _, _, h => by simp at h
  | y :: r, k, j, x, h => by
    rw [rowsIn, heapOf]
    cases j with
    | zero => simp at h; subst h; simp
    | succ j =>
      rw [if_neg (by omega), show k + (j + 1) = k + 1 + j from by omega]
      exact rowsIn_some (by simpa using h)
theorem rowsM_run {c : Cx} {am : AM} : ∀ {rws : List RW} {r : AV} {R : List Nat} {W : List (Nat × Option AObj)}, (rowsM rws am).run c.σ = some (r, R, W) → (∀ (j : Nat) (x : RW), rws[j]? = some x → c.σ x.1 = some (.row x.2.1 x.2.2.1 x.2.2.2)) ∧ ∃ R', am.run c.σ = some (r, R', W)
  | [], r, R, W, h => ⟨fun j x hx => by simp at hx, R, h⟩
  | x :: q, r, R, W, h => by
    have h2 : c.σ x.1 = some (.row x.2.1 x.2.2.1 x.2.2.2) ∧ ∃ R', (rowsM q am).run c.σ = some (r, R', W) := by
      unfold rowsM rowM at h
      rw [AM.run] at h
      cases hx : c.σ x.1 with
      | none => rw [hx] at h; cases h
      | some o =>
        rw [hx] at h
        by_cases e1 : o = .row x.2.1 x.2.2.1 x.2.2.2
        · simp only [e1, if_true] at h
          split at h
          · rename_i r' R' W' hk
            simp at h
            obtain ⟨rfl, _, rfl⟩ := h
            exact ⟨by rw [e1], R', hk⟩
          · cases h
        · simp only [e1, if_false, AM.run] at h
          cases h
    obtain ⟨g1, R', g2⟩ := h2
    obtain ⟨g3, g4⟩ := rowsM_run g2
    refine ⟨fun j x' hx => ?_, g4⟩
    cases j with
    | zero => simp at hx; subst hx; exact g1
    | succ j => exact g3 j x' (by simpa using hx)
theorem outW_app {σ : Heap} : ∀ {rws : List RW} {out : List (Option (List AV))} {i : Nat}, out.length = rws.length → (rws.map (·.1)).Nodup → (∃ (k : Nat) (x : RW) (o : Option (List AV)), rws[k]? = some x ∧ x.1 = i ∧ out[k]? = some o ∧ app σ (outW rws out) i = o.map (.row x.2.1 x.2.2.1)) ∨ (i ∉ rws.map (·.1) ∧ app σ (outW rws out) i = σ i)
  | [], [], i, _, _ => .inr ⟨by simp, rfl⟩
  | x :: r, o :: q, i, hl, hn => by
    rw [List.map_cons, List.nodup_cons] at hn
    rw [outW, app]
    rcases outW_app (σ := fun k => if k = x.1 then o.map (.row x.2.1 x.2.2.1) else σ k) (rws := r) (out := q) (i := i) (by simpa using hl) hn.2 with ⟨k, y, o', e1, e2, e3, e4⟩ | ⟨e1, e2⟩
    · exact .inl ⟨k + 1, y, o', by simpa using e1, e2, by simpa using e3, e4⟩
    · by_cases e : i = x.1
      · exact .inl ⟨0, x, o, rfl, e.symm, rfl, by rw [e2]; simp [e]⟩
      · refine .inr ⟨by simp; exact ⟨e, by simpa using e1⟩, by rw [e2]; simp [e]⟩
  | [], _ :: _, _, h, _ => by simp at h
  | _ :: _, [], _, h, _ => by simp at h
/-- how a body ends whose first rows are the caller's -/
def EndsX (N m : Nat) (rs : List RV) (rws : List RW) (out : List (Option (List AV))) (nb : Nat) (r : AV) (W : List (Nat × Option AObj)) (e : Exit) (s : ASt) : Prop := (e = .normal ∨ e = .ret) ∧ ∃ s', Weak N m s s' ∧ ∃ is, keepOk rws out 0 s'.σ is ∧ Fin rs s' nb is r W
theorem EndsX.weak {rs : List RV} {rws : List RW} {out : List (Option (List AV))} {nb : Nat} {r : AV} {W : List (Nat × Option AObj)} {e : Exit} {s s' : ASt} (hw : Weak N m s s') (h : EndsX N m rs rws out nb r W e s') : EndsX N m rs rws out nb r W e s := by
  obtain ⟨h1, s2, h2, h3⟩ := h
  exact ⟨h1, s2, hw.trans h2, h3⟩
theorem EndsX.imp {rs : List RV} {rws : List RW} {out : List (Option (List AV))} {nb : Nat} {r r0 : AV} {e : Exit} {s : ASt} (he : e = .normal ∨ e = .ret) (h : (resL s rs).map tupOf = some r0) (hp : Pu r0) (hi : Imp r0 r) (hk : keepOk rws out 0 s.σ []) : EndsX N m rs rws out nb r [] e s := by
  obtain ⟨l, h1, h2⟩ := Option.map_eq_some_iff.1 h
  exact ⟨he, s, Weak.refl s, [], hk, ⟨.nil, by simp, ⟨l, h1, by rw [h2]; exact Al.mono (fun _ h => h.elim) hp, by rw [h2, ren_id (p := fun _ => False) (fun _ h => h.elim) hp]; exact hi⟩, [], rfl, rfl, fun k i hk => by simp at hk⟩⟩
theorem EndsX.data {rs : List RV} {rws : List RW} {out : List (Option (List AV))} {nb : Nat} {r : AV} {e : Exit} {s : ASt} (he : e = .normal ∨ e = .ret) (h : (resL s rs).map tupOf = some r) (hp : Pu r) (hk : keepOk rws out 0 s.σ []) : EndsX N m rs rws out nb r [] e s := EndsX.imp he h hp (Imp.refl r) hk
theorem EndsX.rows1 {rs : List RV} {rws : List RW} {out : List (Option (List AV))} {nb : Nat} {r r0 : AV} {e : Exit} {s : ASt} {i : Nat} {y : Bool} {el : Nat} {cells : List AV} (he : e = .normal ∨ e = .ret) (h : (resL s rs).map tupOf = some r0) (hσ : s.σ i = some (.row y el cells)) (hp : PuL cells)
    (ha : Al (fun j => j ∈ [i]) r0) (hr : ren (rn [(i, nb)]) r0 = r) (hk : keepOk rws out 0 s.σ [i]) : EndsX N m rs rws out nb r [(nb, some (.row y el cells))] e s := by
  obtain ⟨l, h1, h2⟩ := Option.map_eq_some_iff.1 h
  refine ⟨he, s, Weak.refl s, [i], hk, ⟨by simp, by simp, ⟨l, h1, by rw [h2]; exact ha, by rw [h2]; simp only [List.zipIdx_cons, List.zipIdx_nil]; rw [hr]; exact Imp.refl r⟩, [(y, el, cells)], rfl, rfl, fun k j hk => ?_⟩⟩
  cases k with
  | zero =>
    simp at hk
    subst hk
    refine ⟨y, el, cells, hσ, AlL.mono (fun _ h => h.elim) hp, cells, rfl, rfl, fun q a' hq => ⟨a', hq, ?_⟩⟩
    rw [ren_id (p := fun _ => False) (fun _ h => h.elim) (AlL_iff.1 hp a' (List.mem_of_getElem? hq))]
    exact Imp.refl a'
  | succ k => simp at hk
theorem FnOk.soundX (m : Nat) {f : Nat} {ac : AC} {rs : List RV} {args : List AV} {nb : Nat} {r : AV} {W : List (Nat × Option AObj)} (rws : List RW) (out : List (Option (List AV))) (h : FnOk P f N ac rs) (hlen : args.length ≤ N) (hp : AlL (fun i => i ∈ rws.map (·.1)) args) (hnd : (rws.map (·.1)).Nodup)
    (hne : ∀ x ∈ rws, (x.2.2.2 ≠ [] ∨ x.2.2.1 = MAPE) ∧ PuL x.2.2.2 ∧ x.1 < nb) (hol : out.length = rws.length) (hm : m ≤ rws.length) (hkm : ∀ (k : Nat) cl, out[k]? = some (some cl) → k < m)
    (hw : wpC P N m ac ⟨envA (renL (rn ((rws.map (·.1)).zipIdx)) args), heapOf (rowsIn 0 rws), rws.length⟩ (EndsX N m rs rws out nb r W)) : ASound P f args nb (rowsM rws (.ret r (outW rws out ++ W))) := by
  obtain ⟨fn, hf, hb, hn, rfl, hcc, hres⟩ := h.h
  have hA := wpC_sound hw (bodyOf fn) hcc
  refine ⟨hn, fun c us r' R W' hrun hr hfr hv => ?_⟩
  obtain ⟨hσ, R', hrun2⟩ := rowsM_run hrun
  simp [AM.run] at hrun2
  obtain ⟨rfl, _, rfl⟩ := hrun2
  clear hrun
  generalize hids : rws.map (·.1) = ids at *
  have idk : ∀ (k : Nat) (x : RW), rws[k]? = some x → ids[k]? = some x.1 := fun k x hx => by rw [← hids, List.getElem?_map, hx]; rfl
  have same : ∀ (k k' : Nat) (x x' : RW), rws[k]? = some x → rws[k']? = some x' → x.1 = x'.1 → k = k' := by
    intro k k' x x' h1 h2 h3
    have e1 := idk k x h1
    have e2 := idk k' x' h2
    rw [h3] at e1
    have l1 : k < ids.length := (List.getElem?_eq_some_iff.1 e1).1
    exact (List.getElem?_inj l1 hnd).1 (e1.trans e2.symm)
  have blk : ∀ k : Nat, ∃ b : Nat, ∀ x : RW, rws[k]? = some x → c.φ x.1 = some (some b) ∧ ∃ cs, Blk c.w b x.2.2.1 cs x.2.2.2.length ∧ ((x.2.1 = true → c.B ≤ b) ∧ ¬ c.X b) ∧ x.2.2.2.length ≤ cs.size ∧ ∀ (j : Nat) a, x.2.2.2[j]? = some a → ∃ u, cs[j]? = some u ∧ u.oneCell' = true ∧ VR c a u := by
    intro k
    cases hx : rws[k]? with
    | none => exact ⟨0, fun x h => by cases h⟩
    | some x =>
      rcases hr.row x.1 _ _ _ (hσ k x hx) with ⟨_, g2⟩ | ⟨b, cs, g1, g2, g3, g4, g5⟩
      · exact ((hne x (List.mem_of_getElem? hx)).1.elim (absurd g2.1) (absurd · g2.2))
      · exact ⟨b, fun x' hx' => by cases hx'; exact ⟨g1, cs, g2, g3, g4, g5⟩⟩
  obtain ⟨β, hβ⟩ := Classical.axiomOfChoice blk
  have inβ : ∀ k, k < rws.length → ∃ x : RW, rws[k]? = some x := fun k hk => ⟨_, List.getElem?_eq_getElem hk⟩
  have ltk : ∀ (k : Nat) (x : RW), rws[k]? = some x → k < rws.length := fun k x hx => (List.getElem?_eq_some_iff.1 hx).1
  obtain ⟨Yx, Yx_pos, Yx_neg⟩ := c.yx
  have Tβ : ∀ k, k < rws.length → c.T (β k) := fun k hk => by
    obtain ⟨x, hx⟩ := inβ k hk
    exact ⟨x.1, _, hσ k x hx, (hβ k x hx).1⟩
  have βinj : ∀ k k', k < rws.length → k' < rws.length → β k = β k' → k = k' := by
    intro k k' h1 h2 h3
    obtain ⟨x, hx⟩ := inβ k h1
    obtain ⟨x', hx'⟩ := inβ k' h2
    refine same k k' x x' hx hx' (hr.inj x.1 x'.1 (β k) (by rw [hσ k x hx]; simp) (by rw [hσ k' x' hx']; simp) (hβ k x hx).1 (by rw [h3]; exact (hβ k' x' hx').1))
  generalize hc1 : (⟨c.w, c.B, fun k => if k < rws.length then some (some (β k)) else none, heapOf (rowsIn 0 rws), fun b => (c.T b ∧ ∀ k, k < rws.length → b ≠ β k) ∨ c.X b, Yx⟩ : Cx) = c1
  have w1 : c1.w = c.w := by rw [← hc1]
  have B1 : c1.B = c.B := by rw [← hc1]
  have σ1 : c1.σ = heapOf (rowsIn 0 rws) := by rw [← hc1]
  have φ1 : ∀ k, c1.φ k = if k < rws.length then some (some (β k)) else none := by rw [← hc1]; intro k; rfl
  have X1 : ∀ b, c1.X b ↔ ((c.T b ∧ ∀ k, k < rws.length → b ≠ β k) ∨ c.X b) := by rw [← hc1]; intro b; rfl
  have Y1 : c1.Y = Yx := by rw [← hc1]
  have T1 : ∀ b, c1.T b ↔ ∃ k, k < rws.length ∧ b = β k := by
    intro b
    constructor
    · rintro ⟨i, o, _, e2⟩
      rw [φ1] at e2
      split at e2
      · rename_i hk; cases e2; exact ⟨i, hk, rfl⟩
      · cases e2
    · rintro ⟨k, hk, rfl⟩
      obtain ⟨x, hx⟩ := inβ k hk
      exact ⟨k, _, by rw [σ1]; have := rowsIn_some (k := 0) hx; rwa [Nat.zero_add] at this, by rw [φ1, if_pos hk]⟩
  have Tlt : ∀ b, c.T b → b < c.w.heap.size := by
    rintro b ⟨i, ⟨y', e', cl⟩, e1, e2⟩
    rcases hr.row i y' e' cl e1 with ⟨g1, _⟩ | ⟨b', cs, g1, g2, _⟩
    · rw [e2] at g1; cases g1
    · rw [e2] at g1; cases g1; exact g2.lt
  have al : Alike (fun i => i ∈ ids) (rn ids.zipIdx) c c1 := by
    refine ⟨w1, fun i x hi hx => ?_, fun fr b _ ho => ⟨by rw [B1]; exact ho.1, ?_, ?_⟩, fun k b n ho => ⟨by rw [X1]; exact .inr ho.1, ?_, ?_⟩⟩
    · obtain ⟨k, hk⟩ := List.mem_iff_getElem?.1 hi
      have hm : (i, k) ∈ ids.zipIdx := by rw [List.mem_iff_getElem?]; exact ⟨k, by rw [List.getElem?_zipIdx, hk]; simp⟩
      have e := rn_mem hm (by rw [List.zipIdx_map_fst]; exact hnd)
      have hkl : k < rws.length := by rw [← hids] at hk; have := (List.getElem?_eq_some_iff.1 hk).1; simpa using this
      obtain ⟨y, hy⟩ := inβ k hkl
      have := idk k y hy
      rw [hk] at this
      cases this
      rw [e, φ1, if_pos hkl, ← (hβ k y hy).1]
      exact hx
    · rw [T1]; rintro ⟨k, hk, rfl⟩; exact ho.2.1 (Tβ k hk)
    · rw [X1]; rintro (h9 | h9)
      · exact ho.2.1 h9.1
      · exact ho.2.2 h9
    · rw [T1]; rintro ⟨k, hk, rfl⟩; exact ho.2.1 (Tβ k hk)
    · rw [Y1, Yx_pos _ ho.1, w1]; exact ho.2.2
  have hv1 : VRt c1 (renL (rn ids.zipIdx) args) us := VRt.ren al hp hv
  have hul := (VRt_iff.1 hv1).1
  have pu1 : ∀ {a : AV} {u : Value}, Pu a → VR c a u → VR c1 a u := by
    intro a u hpa k3
    have := VR.ren al (Al.mono (fun _ h => h.elim) hpa) k3
    rwa [ren_id (p := fun _ => False) (fun _ h => h.elim) hpa] at this
  have hx1 : ∀ b, c1.X b → b < c1.w.heap.size := by
    intro b hb
    rw [w1]
    rcases (X1 b).1 hb with h9 | h9
    · exact Tlt b h9.1
    · exact hr.xlt b h9
  have hr1 : HR c1 := by
    refine ⟨fun i y' e' cl hs => ?_, fun i i' b e1 e2 e3 e4 => ?_, by rw [B1, w1]; exact hr.base, hx1, hr.gl.to fun b _ h2 h3 => ⟨by rw [w1], by rw [T1]; rintro ⟨k, hk, rfl⟩; exact h2 (Tβ k hk), fun _ => by
      rw [Y1]
      by_cases hx : c.X b
      · rw [Yx_pos _ hx]; exact h3 hx
      · exact Yx_neg _ hx⟩⟩
    · rw [σ1] at hs
      obtain ⟨j, x, e1, e2, e3⟩ := rowsIn_get hs
      cases e3
      rw [Nat.zero_add] at e1
      subst e1
      obtain ⟨g1, cs, g2, g3, g4, g5⟩ := hβ i x e2
      refine .inr ⟨β i, cs, by rw [φ1, if_pos (ltk i x e2)], by rw [w1]; exact g2, ⟨by rw [B1]; exact g3.1, ?_⟩, g4, fun j a hj => ?_⟩
      · rw [X1]
        rintro (h9 | h9)
        · exact h9.2 i (ltk i x e2) rfl
        · exact g3.2 h9
      · obtain ⟨u, k1, k2, k3⟩ := g5 j a hj
        exact ⟨u, k1, k2, pu1 (AlL_iff.1 (hne x (List.mem_of_getElem? e2)).2.1 a (List.mem_of_getElem? hj)) k3⟩
    · rw [φ1] at e3 e4
      split at e3
      · rename_i h9
        split at e4
        · rename_i h8
          cases e3
          exact βinj i i' h9 h8 (by injection e4 with e4; injection e4 with e4; exact e4.symm)
        · cases e4
      · cases e3
  have hrel : RelR fn.ntmps rws.length No c1 ⟨envA (renL (rn ids.zipIdx) args), heapOf (rowsIn 0 rws), rws.length⟩ { tmps := us.toArray ++ Array.replicate (fn.ntmps - us.toArray.size) undef, defers := [] } := by
    have hlen' : (renL (rn ids.zipIdx) args).length = args.length := by rw [renL_map]; simp
    refine ⟨by simp; omega, fun t => ?_, hr1, σ1, fun i hi hne => ?_⟩
    · simp only [envA]
      cases ha : (renL (rn ids.zipIdx) args)[t]? with
      | none => trivial
      | some x =>
        obtain ⟨u, e1, e2⟩ := (VRt_iff.1 hv1).2 t x ha
        have hlt : t < us.length := by rw [List.getElem?_eq_some_iff] at e1; exact e1.1
        have : (us.toArray ++ Array.replicate (fn.ntmps - us.toArray.size) undef).getD t undef = u := by
          rw [Array.getD_eq_getD_getElem?, Array.getElem?_append_left (by simpa using hlt)]
          simp [e1]
        rw [this]; exact e2
    · rw [φ1, if_neg (by omega)] at hne; exact absurd rfl hne
  have hw := hA none (.inl rfl) 1 c1 _ hrel hm
  rw [← w1]
  refine calls_of_AW hf hb (wpIn_mono hw ?_)
  rintro e a' w' ⟨c20, s2, rfl, ga, m2, hr20, n2, he, s3, hwk, is, hko, fin⟩
  refine ⟨he, c20, rfl, ga, fun W2 hsd => ?_⟩
  have g2 : Grow c1 (c20.at W2) := ga.g.side hsd (Nat.le_refl _)
  have hr2 := hr20.side hsd
  have w2 : (c20.at W2).w = W2 := rfl
  have m2 : ∀ id, id < m → (c20.at W2).φ id = c1.φ id := m2
  generalize c20.at W2 = c2 at *
  subst w2
  obtain ⟨c3, k1, k2, m3, hr3, _⟩ := hwk c2 a' hr2 n2
  have g3 : Grow c1 c3 := g2.trans k2
  have φ3 : ∀ k, k < m → c3.φ k = some (some (β k)) := fun k hk => by rw [m3 k hk, m2 k hk, φ1, if_pos (Nat.lt_of_lt_of_le hk hm)]
  obtain ⟨_, hkeep⟩ := keepOk_get hko
  have σ3 : ∀ (k : Nat) (x : RW) cl, rws[k]? = some x → out[k]? = some (some cl) → c3.σ k = some (.row x.2.1 x.2.2.1 cl) ∧ k ∉ is ∧ PuL cl := fun k x cl h1 h2 => by
    have := hkeep k x cl h1 h2
    rw [Nat.zero_add] at this
    rw [hr3.σ]; exact this
  obtain ⟨l, l1, l2, l3⟩ := fin.res
  obtain ⟨ws, v1, v2, v3⟩ := fin.rows
  obtain ⟨u, hu1, hu2⟩ := results_run hr3 hres l1
  rw [k1] at hu1
  have hz : ∀ (k : Nat) i, is[k]? = some i → rn (is.zipIdx nb) i = nb + k := by
    intro k i hk
    have hm : (i, nb + k) ∈ is.zipIdx nb := by
      rw [List.mem_iff_getElem?]
      exact ⟨k, by rw [List.getElem?_zipIdx, hk]; rfl⟩
    exact rn_mem hm (by rw [List.zipIdx_map_fst]; exact fin.nodup)
  generalize hd : (⟨c3.w, c.B, fun id => if nb ≤ id then (match is[id - nb]? with | some i => c3.φ i | none => c.φ id) else c.φ id, app c.σ (outW rws out ++ W), c.X, c.Y⟩ : Cx) = d
  have dw : d.w = c3.w := by rw [← hd]
  have dB : d.B = c.B := by rw [← hd]
  have dX : d.X = c.X := by rw [← hd]
  have dY : d.Y = c.Y := by rw [← hd]
  have dσ : ∀ i, d.σ i = if nb ≤ i then (match ws[i - nb]? with | some x => some (.row x.1 x.2.1 x.2.2) | none => app c.σ (outW rws out) i) else app c.σ (outW rws out) i := by
    intro i
    rw [← hd]
    show app c.σ (outW rws out ++ W) i = _
    rw [← app_append, v2, app_rows]
    try rfl
  have dφ : ∀ i, d.φ i = if nb ≤ i then (match is[i - nb]? with | some i => c3.φ i | none => c.φ i) else c.φ i := by rw [← hd]; intro id; rfl
  have stay : ∀ b, b < c.w.heap.size → (∀ k, k < rws.length → b ≠ β k) → (c.X b → c.Y b = .no) → d.w.heap[b]? = c.w.heap[b]? := fun b hb hb0 hy => by
    rw [dw]
    have := g3.stay b (by rw [w1]; exact hb) (by rw [T1]; rintro ⟨k, hk, e⟩; exact hb0 k hk e) (fun _ => by
      rw [Y1]
      by_cases hx : c.X b
      · rw [Yx_pos _ hx]; exact hy hx
      · exact Yx_neg _ hx)
    rw [this, w1]
  have size : c.w.heap.size ≤ d.w.heap.size := by rw [dw, ← w1]; exact g3.size
  have dnew : ∀ (k : Nat) i, is[k]? = some i → d.φ (nb + k) = c3.φ i := fun k i hk => by
    rw [dφ, if_pos (by omega), Nat.add_sub_cancel_left, hk]
  have dold : ∀ i, (¬ nb ≤ i ∨ is[i - nb]? = none) → d.φ i = c.φ i ∧ d.σ i = app c.σ (outW rws out) i := by
    intro i hi
    rw [dφ, dσ]
    by_cases h1 : nb ≤ i
    · have h2 := hi.resolve_left (by simpa using h1)
      have h3 : ws[i - nb]? = none := by rw [List.getElem?_eq_none_iff] at h2 ⊢; omega
      rw [if_pos h1, if_pos h1, h2, h3]; exact ⟨rfl, rfl⟩
    · rw [if_neg h1, if_neg h1]; exact ⟨rfl, rfl⟩
  have split2 : ∀ i, (nb ≤ i ∧ i - nb < is.length) ∨ (¬ nb ≤ i ∨ is[i - nb]? = none) := by
    intro i
    by_cases h2 : nb ≤ i
    · by_cases h3 : i - nb < is.length
      · exact .inl ⟨h2, h3⟩
      · right; right; rw [List.getElem?_eq_none_iff]; omega
    · exact .inr (.inl h2)
  have names : Names c d := by
    intro i x hx
    rcases split2 i with h1 | h1
    · rcases hfr i h1.1 with h2 | h2
      · rw [h2] at hx; cases hx
      · have := fin.few; omega
    · rw [(dold i h1).1]; exact hx
  have did : ∀ (k : Nat) (x : RW), rws[k]? = some x → d.φ x.1 = some (some (β k)) := fun k x hx => names _ _ (hβ k x hx).1
  have dlive : ∀ i o, d.σ i = some o → (i ∉ ids ∧ c.σ i = some o ∧ d.φ i = c.φ i) ∨ (∃ (k : Nat) (x : RW) (cl : List AV), rws[k]? = some x ∧ x.1 = i ∧ out[k]? = some (some cl) ∧ o = .row x.2.1 x.2.2.1 cl) ∨ ∃ k i' y e cells, is[k]? = some i' ∧ i = nb + k ∧ c3.σ i' = some (.row y e cells) ∧ AlL (fun i => i ∈ is) cells ∧ ∃ cells', o = .row y e cells' ∧ cells'.length = cells.length ∧ ∀ (j : Nat) a', cells'[j]? = some a' → ∃ a, cells[j]? = some a ∧ Imp (ren (rn (is.zipIdx nb)) a) a' := by
    intro i o ho
    rcases split2 i with h1 | h1
    · right; right
      have hk : is[i - nb]? = some is[i - nb] := List.getElem?_eq_getElem h1.2
      obtain ⟨y2, e2, cl2, e1, e3, cells2, e4, e5⟩ := v3 _ _ hk
      rw [dσ, if_pos h1.1, e4] at ho
      simp at ho
      exact ⟨i - nb, _, y2, e2, cl2, hk, by omega, by rw [hr3.σ]; exact e1, e3, cells2, ho.symm, e5⟩
    · have h2 := dold i h1
      rw [h2.2] at ho
      rcases outW_app (σ := c.σ) (i := i) hol (by rw [hids]; exact hnd) with ⟨k, x, q, e1, e2, e3, e4⟩ | ⟨e1, e2⟩
      · rw [e4] at ho
        cases q with
        | none => cases ho
        | some cl => cases ho; exact .inr (.inl ⟨k, x, cl, e1, e2, e3, rfl⟩)
      · rw [e2] at ho
        exact .inl ⟨by rw [← hids]; exact e1, ho, h2.1⟩
  have newblk : ∀ (k : Nat) i y e cells b, is[k]? = some i → c3.σ i = some (.row y e cells) → c3.φ i = some (some b) → c.w.heap.size ≤ b ∨ ∃ k, k < rws.length ∧ b = β k ∧ ∀ cl, out[k]? ≠ some (some cl) := by
    intro k0 i y2 e2 cl2 b hi e1 e3
    rcases g3.held b ⟨i, _, e1, e3⟩ with h9 | h9
    · obtain ⟨k, hk, rfl⟩ := (T1 b).1 h9
      refine .inr ⟨k, hk, rfl, fun cl hcl => ?_⟩
      obtain ⟨x, hx⟩ := inβ k hk
      obtain ⟨q1, q2, _⟩ := σ3 k x cl hx hcl
      have := hr3.hr.inj i k (β k) (by rw [e1]; simp) (by rw [q1]; simp) e3 (φ3 k (hkm k cl hcl))
      exact q2 (by rw [← this]; exact List.mem_of_getElem? hi)
    · rw [← w1]; exact .inl h9
  have notin : ∀ (i : Nat) o b, i ∉ ids → c.σ i = some o → c.φ i = some (some b) → ∀ k, k < rws.length → b ≠ β k := by
    rintro i o b h1 h2 h3 k hk rfl
    obtain ⟨x, hx⟩ := inβ k hk
    have := hr.inj i x.1 (β k) (by rw [h2]; simp) (by rw [hσ k x hx]; simp) h3 (hβ k x hx).1
    exact h1 (by rw [this]; exact List.mem_of_getElem? (idk k x hx))
  have dT : ∀ b, d.T b → (c.T b ∨ c.w.heap.size ≤ b) ∧ ((c.T b ∧ ∀ k, k < rws.length → b ≠ β k) ∨ c3.T b) := by
    rintro b ⟨i, o, e1, e2⟩
    rcases dlive i o e1 with ⟨f0, f1, f2⟩ | ⟨k, x, cl, f1, rfl, f3, _⟩ | ⟨k, i', y2, e3, cl2, f1, rfl, f3, _, _⟩
    · rw [f2] at e2
      exact ⟨.inl ⟨i, o, f1, e2⟩, .inl ⟨⟨i, o, f1, e2⟩, notin i o b f0 f1 e2⟩⟩
    · rw [did k x f1] at e2; cases e2
      exact ⟨.inl (Tβ k (ltk k x f1)), .inr ⟨k, _, (σ3 k x cl f1 f3).1, φ3 k (hkm k cl f3)⟩⟩
    · rw [dnew k i' f1] at e2
      refine ⟨?_, .inr ⟨i', _, f3, e2⟩⟩
      rcases newblk k i' y2 e3 cl2 b f1 f3 e2 with h9 | ⟨k', hk', rfl, _⟩
      · exact .inr h9
      · exact .inl (Tβ k' hk')
  have grow : Grow c d := by
    refine ⟨dX, dB, ?_, ?_, ?_, size, fun b hb ht hy => stay b hb (fun k hk e1 => ht (by rw [e1]; exact Tβ k hk)) hy, fun b hb => (dT b hb).1, fun b cs e f hb => (by have := g3.shape b cs e f (by rw [w1]; exact hb); rw [dw]; exact this), dY, fun b k sz h1 h2 h3 h4 h5 => (by
      have := g3.wild b k sz (by rw [T1]; rintro ⟨k, hk, rfl⟩; exact h1 (Tβ k hk)) (by rw [X1]; exact .inr h2) (by rw [Y1, Yx_pos _ h2]; exact h3) h4 (by rw [w1]; exact h5)
      rw [dw]; exact this)⟩
    · rw [dw, g3.out, w1]
    · rw [dw, g3.osE, w1]
    · rw [dw, g3.tape, w1]
  have al3 : Alike (fun i => i ∈ is) (rn (is.zipIdx nb)) c3 d := by
    refine ⟨dw, fun i x hi hx => ?_, fun fr b hb ho => ⟨fun hf' => ?_, fun ht => ?_, ?_⟩, ?_⟩
    · obtain ⟨k, hk⟩ := List.mem_iff_getElem?.1 hi
      rw [hz k i hk, dnew k i hk]; exact hx
    · rw [dB, ← B1, ← g3.B]; exact ho.1 hf'
    · rcases (dT b ht).2 with h9 | h9
      · exact ho.2.2 (by rw [g3.X, X1]; exact .inl h9)
      · exact ho.2.1 h9
    · rw [dX]; intro h9; exact ho.2.2 (by rw [g3.X, X1]; exact .inr h9)
    · intro k b n ho
      obtain ⟨o1, o2, o3, o4, o5⟩ := ho
      rw [g3.Y, Y1] at o3
      have hx : c.X b := by
        by_cases hx : c.X b
        · exact hx
        · rw [Yx_neg _ hx] at o3; rcases o4 with rfl | rfl <;> cases o3
      rw [Yx_pos _ hx] at o3
      refine ⟨by rw [dX]; exact hx, fun ht => ?_, by rw [dY]; exact o3, o4, by rw [dw]; exact o5⟩
      rcases (dT b ht).2 with h9 | h9
      · exact hr.TX h9.1 hx
      · exact o2 h9
  have hrd : HR d := by
    refine ⟨fun i y2 e2 cl hs => ?_, fun i i' b e1 e2 e3 e4 => ?_, by rw [dB]; exact Nat.le_trans hr.base size, fun b hb => by rw [dX] at hb; exact Nat.lt_of_lt_of_le (hr.xlt b hb) size, hr.gl.grow grow⟩
    · rcases dlive i _ hs with ⟨f0, f1, f2⟩ | ⟨k, x, cl', f1, rfl, f3, f4⟩ | ⟨k, i', y', e', cells0, f1, rfl, f3, f4, cells2, f5, f6, f7⟩
      · rcases hr.row i y2 e2 cl f1 with ⟨g1, g2⟩ | ⟨b, cs, g1, g2, g3', g4, g5⟩
        · exact .inl ⟨by rw [f2]; exact g1, g2⟩
        · refine .inr ⟨b, cs, by rw [f2]; exact g1, g2.of (stay b g2.lt (notin i _ b f0 f1 g1) (fun h9 => absurd h9 g3'.2)), ⟨by rw [dB]; exact g3'.1, by rw [dX]; exact g3'.2⟩, g4, fun j x hj => ?_⟩
          obtain ⟨q, k1, k2, k3⟩ := g5 j x hj
          exact ⟨q, k1, k2, k3.mono grow names⟩
      · cases f4
        obtain ⟨q1, q2, q3⟩ := σ3 k x _ f1 f3
        rcases hr3.hr.row k _ _ _ q1 with ⟨g1, _⟩ | ⟨b, cs, g1, g2, g3', g4, g5⟩
        · rw [φ3 k (hkm k _ f3)] at g1; cases g1
        · rw [φ3 k (hkm k _ f3)] at g1; cases g1
          obtain ⟨_, _, _, z3, _⟩ := hβ k x f1
          refine .inr ⟨β k, cs, did k x f1, by rw [dw]; exact g2, ⟨fun hy => by rw [dB, ← B1, ← g3.B]; exact g3'.1 hy, by rw [dX]; exact z3.2⟩, g4, fun j x hj => ?_⟩
          obtain ⟨q, m1, m2, m3⟩ := g5 j x hj
          have hpa : Pu x := AlL_iff.1 q3 x (List.mem_of_getElem? hj)
          have := VR.ren al3 (Al.mono (fun _ h => h.elim) hpa) m3
          rw [ren_id (p := fun _ => False) (fun _ h => h.elim) hpa] at this
          exact ⟨q, m1, m2, this⟩
      · cases f5
        rcases hr3.hr.row i' y2 e2 cells0 f3 with ⟨g1, g2⟩ | ⟨b, cs, g1, g2, g3', g4, g5⟩
        · exact .inl ⟨by rw [dnew k i' f1]; exact g1, by rw [g2.1] at f6; exact List.eq_nil_of_length_eq_zero f6, g2.2⟩
        · refine .inr ⟨b, cs, by rw [dnew k i' f1]; exact g1, by rw [dw]; exact g2.to f6, ⟨fun hy => by rw [dB, ← B1, ← g3.B]; exact g3'.1 hy, fun hx => ?_⟩, by omega, fun j x hj => ?_⟩
          · rw [dX] at hx; exact g3'.2 (by rw [g3.X, X1]; exact .inr hx)
          · obtain ⟨x', hx', hi'⟩ := f7 j x hj
            obtain ⟨q, m1, m2, m3⟩ := g5 j x' hx'
            exact ⟨q, m1, m2, hi' _ _ (VR.ren al3 (AlL_iff.1 f4 x' (List.mem_of_getElem? hx')) m3)⟩
    · obtain ⟨o1, ho1⟩ := Option.ne_none_iff_exists'.1 e1
      obtain ⟨o2, ho2⟩ := Option.ne_none_iff_exists'.1 e2
      have old : ∀ j o, d.σ j = some o → (∃ o', c.σ j = some o' ∧ d.φ j = c.φ j ∧ (j ∉ ids ∨ ∃ (k : Nat) (x : RW) (cl : List AV), rws[k]? = some x ∧ x.1 = j ∧ out[k]? = some (some cl))) ∨ ∃ k i' y e cells, is[k]? = some i' ∧ j = nb + k ∧ c3.σ i' = some (.row y e cells) := by
        intro j o hj
        rcases dlive j o hj with ⟨f0, f1, f2⟩ | ⟨k, x, cl, f1, rfl, f3, _⟩ | ⟨k, i', y', e', cells0, f1, f2, f3, _⟩
        · exact .inl ⟨o, f1, f2, .inl f0⟩
        · exact .inl ⟨_, hσ k x f1, by rw [did k x f1, (hβ k x f1).1], .inr ⟨k, x, cl, f1, rfl, f3⟩⟩
        · exact .inr ⟨k, i', y', e', cells0, f1, f2, f3⟩
      have oldnew : ∀ j o b, c.σ j = some o → c.φ j = some (some b) → (j ∉ ids ∨ ∃ (k : Nat) (x : RW) (cl : List AV), rws[k]? = some x ∧ x.1 = j ∧ out[k]? = some (some cl)) → ∀ (k : Nat) i y e cells, is[k]? = some i → c3.σ i = some (.row y e cells) → c3.φ i = some (some b) → False := by
        intro j o b h1 h2 h3 k i y e cells h4 h5 h6
        rcases newblk k i y e cells b h4 h5 h6 with h9 | ⟨k', hk', rfl, h8⟩
        · have := Tlt b ⟨j, _, h1, h2⟩
          omega
        · rcases h3 with h3 | ⟨k2, x, cl, q1, rfl, q3⟩
          · exact notin j o (β k') h3 h1 h2 k' hk' rfl
          · have e9 := (hβ k2 x q1).1
            rw [h2] at e9
            injection e9 with e9
            injection e9 with e9
            have := βinj k' k2 hk' (ltk k2 x q1) e9
            rw [this] at h8
            exact h8 cl q3
      rcases old i o1 ho1 with ⟨_, f1, f2, f9⟩ | ⟨k, j, y2, e5, cl, f1, rfl, f3⟩ <;> rcases old i' o2 ho2 with ⟨_, j1, j2, j9⟩ | ⟨k', j', y', e', cl', j1, rfl, j3⟩
      · exact hr.inj i i' b (by rw [f1]; simp) (by rw [j1]; simp) (by rw [← f2]; exact e3) (by rw [← j2]; exact e4)
      · rw [dnew k' j' j1] at e4
        exact (oldnew i _ b f1 (by rw [← f2]; exact e3) f9 k' j' _ _ _ j1 j3 e4).elim
      · rw [dnew k j f1] at e3
        exact (oldnew i' _ b j1 (by rw [← j2]; exact e4) j9 k j _ _ _ f1 f3 e3).elim
      · rw [dnew k j f1] at e3
        rw [dnew k' j' j1] at e4
        have := hr3.hr.inj j j' b (by rw [f3]; simp) (by rw [j3]; simp) e3 e4
        subst this
        have k1 := hz k j f1
        have k2 := hz k' j j1
        omega
  have T : Then c nb (outW rws out ++ W) d := ⟨grow, names, hrd, by rw [← hd], fun i hi => by
    rcases split2 i with h1 | h1
    · right; have := fin.few; omega
    · left
      rw [(dold i h1).1] at hi
      exact hi⟩
  have fin' : ∃ v, (results fn a'.tmps).run P c2.w = .ok v c2.w ∧ ∃ v' d, Ending.returned v = .returned v' ∧ d.w = c2.w ∧ VR d r v' ∧ Then c nb (outW rws out ++ W) d := by
    refine ⟨u, hu1, u, d, rfl, by rw [dw]; exact k1, ?_, T⟩
    exact l3 _ _ (VR.ren al3 l2 hu2)
  exact fin'
end Go.Proofs.YtonglhkiobibgaaGreatDoor
namespace Go.Proofs.YtonglhkiobibgaaGreatDoor
open Go.RowKit
structure Wr where
  sec : Int
  data : List Int
structure Dk where
  sectors : List (List Int)
  cache : List Wr
structure Rec where
  kind : Int
  nums : List Int
  texts : List (List Int)
structure Pt where
  epoch : Int
  seq : Int
  view : Int
  commit : Int
  data : List Int
theorem lt_at {α : Type} {l : List α} {k : Nat} (h : k < l.length) : ∃ x, l[k]? = some x ∧ ((k : Int) < (l.length : Int)) ∧ ((0 : Int) ≤ (k : Int)) := ⟨_, List.getElem?_eq_getElem h, by omega, by omega⟩
theorem flat_len {α : Type} {e : α → List AV} {k : Nat} (he : ∀ x, (e x).length = k) : ∀ l : List α, (l.flatMap e).length = l.length * k
  | [] => by simp
  | x :: l => by rw [List.flatMap_cons, List.length_append, he, flat_len he l, List.length_cons, Nat.add_mul]; omega
theorem flat_get {α : Type} {e : α → List AV} {k : Nat} (he : ∀ x, (e x).length = k) : ∀ {l : List α} {i : Nat} {x : α}, l[i]? = some x → ∀ j, j < k → (l.flatMap e)[i * k + j]? = (e x)[j]?
  | [], i, x, h, j, hj => by simp at h
  | y :: l, 0, x, h, j, hj => by
    simp at h
    subst h
    rw [List.flatMap_cons, Nat.zero_mul, Nat.zero_add, List.getElem?_append_left (by rw [he]; exact hj)]
  | y :: l, i + 1, x, h, j, hj => by
    rw [List.flatMap_cons, List.getElem?_append_right (by rw [he, Nat.add_mul]; omega), he, show (i + 1) * k + j - k = i * k + j from by rw [Nat.add_mul]; omega]
    exact flat_get he (by simpa using h) j hj
theorem AlL_flat {α : Type} {e : α → List AV} {p : Nat → Prop} (he : ∀ x, AlL p (e x)) (l : List α) : AlL p (l.flatMap e) := by
  rw [AlL_iff]
  intro a ha
  rw [List.mem_flatMap] at ha
  obtain ⟨x, _, hx⟩ := ha
  exact AlL_iff.1 (he x) a hx
theorem AlL_map {α : Type} {e : α → AV} {p : Nat → Prop} (he : ∀ x, Al p (e x)) (l : List α) : AlL p (l.map e) := by
  rw [AlL_iff]
  intro a ha
  rw [List.mem_map] at ha
  obtain ⟨x, _, rfl⟩ := ha
  exact he x
def eB (l : List Int) : List AV := l.map fun x => .v (.int .u8 x)
def eI (l : List Int) : List AV := l.map fun x => .v (.int .i64 x)
def fB (fr : Bool) (l : List Int) : AV := .fs fr (eB l) l.length
def fI (fr : Bool) (l : List Int) : AV := .fs fr (eI l) l.length
def eL (fr : Bool) (l : List (List Int)) : List AV := l.map fun x => .fs fr (eB x) x.length
def fL (fr : Bool) (l : List (List Int)) : AV := .fs fr (eL fr l) l.length
def eWr (fr : Bool) (w : Wr) : List AV := [.v (.int .i64 w.sec), .fs fr (eB w.data) w.data.length]
def eWrs (fr : Bool) (l : List Wr) : List AV := l.flatMap (eWr fr)
def fWrs (fr : Bool) (l : List Wr) : AV := .fs fr (eWrs fr l) l.length
def aDk (fr : Bool) (d : Dk) : AV := .agg [fL fr d.sectors, fWrs fr d.cache]
def aRec (fr : Bool) (r : Rec) : AV := .agg [.v (.int .i64 r.kind), fI fr r.nums, fL fr r.texts]
def aPt (fr : Bool) (p : Pt) : AV := .agg [.v (.int .i64 p.epoch), .v (.int .i64 p.seq), .v (.int .i64 p.view), .v (.int .i64 p.commit), fB fr p.data]
section
variable {p : Nat → Prop} {fr : Bool}
theorem al_B (l : List Int) : AlL p (eB l) := AlL_map (e := fun x => AV.v (.int .u8 x)) (fun _ => trivial) l
theorem al_I (l : List Int) : AlL p (eI l) := AlL_map (e := fun x => AV.v (.int .i64 x)) (fun _ => trivial) l
theorem al_L (l : List (List Int)) : AlL p (eL fr l) := AlL_map (e := fun x => AV.fs fr (eB x) x.length) (fun x => al_B x) l
theorem al_Wrs (l : List Wr) : AlL p (eWrs fr l) := AlL_flat (e := eWr fr) (fun w => show AlL p (eWr fr w) from ⟨trivial, al_B w.data, trivial⟩) l
theorem al_fB (l : List Int) : Al p (fB fr l) := al_B l
theorem ren_B {ρ : Nat → Nat} (l : List Int) : renL ρ (eB l) = eB l := renL_id (p := fun _ => False) (fun _ h => h.elim) (al_B l)
theorem ren_I {ρ : Nat → Nat} (l : List Int) : renL ρ (eI l) = eI l := renL_id (p := fun _ => False) (fun _ h => h.elim) (al_I l)
theorem ren_L {ρ : Nat → Nat} (l : List (List Int)) : renL ρ (eL fr l) = eL fr l := renL_id (p := fun _ => False) (fun _ h => h.elim) (al_L l)
theorem ren_Wrs {ρ : Nat → Nat} (l : List Wr) : renL ρ (eWrs fr l) = eWrs fr l := renL_id (p := fun _ => False) (fun _ h => h.elim) (al_Wrs l)
theorem len_B (l : List Int) : (eB l).length = l.length := by simp [eB]
theorem len_I (l : List Int) : (eI l).length = l.length := by simp [eI]
theorem len_L (l : List (List Int)) : (eL fr l).length = l.length := by simp [eL]
theorem len_Wrs (l : List Wr) : (eWrs fr l).length = l.length * 2 := flat_len (e := eWr fr) (k := 2) (fun _ => rfl) l
theorem tk_B (l : List Int) : List.take l.length (eB l) = eB l := List.take_of_length_le (by rw [len_B]; exact Nat.le_refl _)
theorem tk_I (l : List Int) : List.take l.length (eI l) = eI l := List.take_of_length_le (by rw [len_I]; exact Nat.le_refl _)
theorem tk_L (l : List (List Int)) : List.take l.length (eL fr l) = eL fr l := List.take_of_length_le (by rw [len_L]; exact Nat.le_refl _)
theorem tk_Wrs (l : List Wr) : List.take (l.length * 2) (eWrs fr l) = eWrs fr l := List.take_of_length_le (by rw [len_Wrs]; exact Nat.le_refl _)
theorem get_B {l : List Int} {i : Nat} {x : Int} (h : l[i]? = some x) : (eB l)[i]? = some (.v (.int .u8 x)) := by simp [eB, h]
theorem app_B (a b : List Int) : eB (a ++ b) = eB a ++ eB b := by simp [eB]
theorem drop_B (l : List Int) (n : Nat) : (eB l).drop n = eB (l.drop n) := by simp [eB]
theorem take_B (l : List Int) (n : Nat) : (eB l).take n = eB (l.take n) := by simp [eB]
end
end Go.Proofs.YtonglhkiobibgaaGreatDoor
namespace Go.Proofs.YtonglhkiobibgaaGreatDoor
theorem TT : type_of% (And.intro @SS (And.intro @Option.map_some.{0,0} (And.intro @Option.map_none.{0,0} (And.intro @List.drop_zero.{0} (And.intro @List.take_succ_cons.{0} (And.intro @List.take_zero.{0} (And.intro @List.take_nil.{0} (And.intro @Nat.mul_one (And.intro @Nat.one_mul (And.intro @List.cons_append.{0} (And.intro @List.nil_append.{0} (And.intro @boxA.eq_1 (And.intro @cellsOf.eq_1 (And.intro @cellsOf.eq_2 (And.intro @cellsOf.eq_3 (And.intro @cellsOf.eq_4 (And.intro @cellsOf.eq_5 (And.intro @cellsOf.eq_6 (And.intro @foffA.eq_1 (And.intro @foffA.eq_2 (And.intro @foffA.eq_3 (And.intro @loadA.eq_1 (And.intro @loadA.eq_2 (And.intro @loadA.eq_3 (And.intro @loadA.eq_4 (And.intro @ldA.eq_1 (And.intro @idxA.eq_1 (And.intro @idxA.eq_2 (And.intro @idxA.eq_3 (And.intro @idxA.eq_4 (And.intro @idxA.eq_5 (And.intro @fldA.eq_1 (And.intro @fldA.eq_2 (And.intro @binA.eq_1 (And.intro @binA.eq_2 (And.intro @binA.eq_3 (And.intro @binA.eq_4 (And.intro @binA.eq_5 (And.intro @binVal.eq_1 (And.intro @binVal.eq_2 (And.intro @binVal.eq_3 (And.intro @isSh.eq_1 (And.intro @isSh.eq_2 (And.intro @isSh.eq_3 (And.intro @intVal.eq_1 (And.intro @intVal.eq_2 (And.intro @intVal.eq_3 (And.intro @intVal.eq_4 (And.intro @intVal.eq_5 (And.intro @intVal.eq_6 (And.intro @intVal.eq_7 (And.intro @intVal.eq_8 (And.intro @intVal.eq_9 (And.intro @intVal.eq_10 (And.intro @intVal.eq_11 (And.intro @intVal.eq_12 (And.intro @intVal.eq_13 (And.intro @intVal.eq_14 (And.intro @intVal.eq_15 (And.intro @lenA.eq_1 (And.intro @lenA.eq_2 (And.intro @lenA.eq_3 (And.intro @lenA.eq_4 (And.intro @lenA.eq_5 (And.intro @slenA.eq_1 (And.intro @slenA.eq_2 (And.intro @pickA.eq_1 (And.intro @pickA.eq_2 (And.intro @storeA.eq_1 (And.intro @storeA.eq_2 (And.intro @storeA.eq_3 (And.intro @storeA.eq_4 (And.intro @setN.eq_1 (And.intro @setN.eq_2 (And.intro @getN.eq_1 (And.intro @getN.eq_2 (And.intro @fillA.eq_1 (And.intro @fillA.eq_2 (And.intro @extA.eq_1 (And.intro @extA.eq_2 (And.intro @beqA.eq_1 (And.intro @beqA.eq_2 (And.intro @beqA.eq_3 (And.intro @eqsA.eq_1 (And.intro @eqsA.eq_2 (And.intro @eqsA.eq_3 (And.intro @eqL.eq_1 (And.intro @eqL.eq_2 (And.intro @eqL.eq_3 (And.intro @eqL.eq_4 (And.intro @eqL.eq_5 (And.intro @isnilA.eq_1 (And.intro @isnilA.eq_2 (And.intro @isnilA.eq_3 (And.intro @isnilA.eq_4 (And.intro @isnilA.eq_5 (And.intro @isnilA.eq_6 (And.intro @isnilA.eq_7 (And.intro @isnilA.eq_8 (And.intro @isnilA.eq_9 (And.intro @isnilA.eq_10 (And.intro @unA.eq_1 (And.intro @unA.eq_2 (And.intro @unA.eq_3 (And.intro @unVal.eq_1 (And.intro @unVal.eq_2 (And.intro @unVal.eq_3 (And.intro @unVal.eq_4 (And.intro @unVal.eq_5 (And.intro @unVal.eq_6 (And.intro @convA.eq_1 (And.intro @convA.eq_2 (And.intro @nilA.eq_1 (And.intro @nilA.eq_2 (And.intro @nilA.eq_3 (And.intro @sconvA.eq_1 (And.intro @sconvA.eq_2 (And.intro @b2sA.eq_1 (And.intro @b2sA.eq_2 (And.intro @b2sA.eq_3 (And.intro @b2sA.eq_4 (And.intro @b2sOf.eq_1 (And.intro @bytesOf.eq_1 (And.intro @bytesOf.eq_2 (And.intro @bytesOf.eq_3 (And.intro @mmA.eq_1 (And.intro @mmA.eq_2 (And.intro @mmA.eq_3 (And.intro @srcA.eq_1 (And.intro @srcA.eq_2 (And.intro @srcA.eq_3 (And.intro @srcA.eq_4 (And.intro @appA.eq_1 (And.intro @appA.eq_2 (And.intro @appA.eq_3 (And.intro @sliceA.eq_1 (And.intro @sliceA.eq_2 (And.intro @sliceA.eq_3 (And.intro @sliceA.eq_4 (And.intro @lohi.eq_1 (And.intro @lohi.eq_2 (And.intro @lohi.eq_3 (And.intro @lohi.eq_4 (And.intro @lohi.eq_5 (And.intro @mkslA.eq_1 (And.intro @mkslA.eq_2 (And.intro @mkslA.eq_3 (And.intro @aidxA.eq_1 (And.intro @aidxA.eq_2 (And.intro @aidxA.eq_3 (And.intro @aidxA.eq_4 (And.intro @capA.eq_1 (And.intro @capA.eq_2 (And.intro @appzA.eq_1 (And.intro @appzA.eq_2 (And.intro @appzA.eq_3 (And.intro @appzA.eq_4 (And.intro @appzA.eq_5 (And.intro @copyA.eq_1 (And.intro @copyA.eq_2 (And.intro @slice0A.eq_1 (And.intro @slice0A.eq_2 (And.intro @slice0A.eq_3 (And.intro @slice0A.eq_4 (And.intro @sidxA.eq_1 (And.intro @sidxA.eq_2 (And.intro @sidxA.eq_3 (And.intro @envA.eq_1 (And.intro @rowsM.eq_1 (And.intro @rowsM.eq_2 (And.intro @outW.eq_1 (And.intro @outW.eq_2 (And.intro @fB.eq_1 (And.intro @fI.eq_1 (And.intro @fL.eq_1 (And.intro @fWrs.eq_1 (And.intro @aDk.eq_1 (And.intro @aRec.eq_1 (And.intro @aPt.eq_1 (And.intro @mlookA.eq_1 (And.intro @mlookA.eq_2 (And.intro @mlookA.eq_3 (And.intro @mupdA.eq_1 (And.intro @mupdA.eq_2 (And.intro @mupdA.eq_3 (And.intro @mlenA.eq_1 (And.intro @mlenA.eq_2 (And.intro @mfind.eq_1 (And.intro @mfind.eq_2 (And.intro @mfind.eq_3 (And.intro @mput.eq_1 (And.intro @mput.eq_2 (And.intro @mput.eq_3 (And.intro @oneA.eq_1 (And.intro @oneA.eq_2 (And.intro @oneA.eq_3 (And.intro @oneA.eq_4 (And.intro @oneA.eq_5 (And.intro @oneA.eq_6 (And.intro @oneA.eq_7 (And.intro @ssliceA.eq_1 (And.intro @ssliceA.eq_2 (And.intro @s2bA.eq_1 (And.intro @s2bA.eq_2 (And.intro @mlook0A.eq_1 (And.intro @mlook0A.eq_2 (And.intro @mlook0A.eq_3 (And.intro @keyL.eq_1 (And.intro @keyL.eq_2 (And.intro @keyL.eq_3 (And.intro @keyL.eq_4 @keyL.eq_5))))))))))))))))))))))))))))))))))))))))))))))))))))))))))))))))))))))))))))))))))))))))))))))))))))))))))))))))))))))))))))))))))))))))))))))))))))))))))))))))))))))))))))))))))))))))))))))))))))))))))))))))))) := (And.intro @SS (And.intro @Option.map_some.{0,0} (And.intro @Option.map_none.{0,0} (And.intro @List.drop_zero.{0} (And.intro @List.take_succ_cons.{0} (And.intro @List.take_zero.{0} (And.intro @List.take_nil.{0} (And.intro @Nat.mul_one (And.intro @Nat.one_mul (And.intro @List.cons_append.{0} (And.intro @List.nil_append.{0} (And.intro @boxA.eq_1 (And.intro @cellsOf.eq_1 (And.intro @cellsOf.eq_2 (And.intro @cellsOf.eq_3 (And.intro @cellsOf.eq_4 (And.intro @cellsOf.eq_5 (And.intro @cellsOf.eq_6 (And.intro @foffA.eq_1 (And.intro @foffA.eq_2 (And.intro @foffA.eq_3 (And.intro @loadA.eq_1 (And.intro @loadA.eq_2 (And.intro @loadA.eq_3 (And.intro @loadA.eq_4 (And.intro @ldA.eq_1 (And.intro @idxA.eq_1 (And.intro @idxA.eq_2 (And.intro @idxA.eq_3 (And.intro @idxA.eq_4 (And.intro @idxA.eq_5 (And.intro @fldA.eq_1 (And.intro @fldA.eq_2 (And.intro @binA.eq_1 (And.intro @binA.eq_2 (And.intro @binA.eq_3 (And.intro @binA.eq_4 (And.intro @binA.eq_5 (And.intro @binVal.eq_1 (And.intro @binVal.eq_2 (And.intro @binVal.eq_3 (And.intro @isSh.eq_1 (And.intro @isSh.eq_2 (And.intro @isSh.eq_3 (And.intro @intVal.eq_1 (And.intro @intVal.eq_2 (And.intro @intVal.eq_3 (And.intro @intVal.eq_4 (And.intro @intVal.eq_5 (And.intro @intVal.eq_6 (And.intro @intVal.eq_7 (And.intro @intVal.eq_8 (And.intro @intVal.eq_9 (And.intro @intVal.eq_10 (And.intro @intVal.eq_11 (And.intro @intVal.eq_12 (And.intro @intVal.eq_13 (And.intro @intVal.eq_14 (And.intro @intVal.eq_15 (And.intro @lenA.eq_1 (And.intro @lenA.eq_2 (And.intro @lenA.eq_3 (And.intro @lenA.eq_4 (And.intro @lenA.eq_5 (And.intro @slenA.eq_1 (And.intro @slenA.eq_2 (And.intro @pickA.eq_1 (And.intro @pickA.eq_2 (And.intro @storeA.eq_1 (And.intro @storeA.eq_2 (And.intro @storeA.eq_3 (And.intro @storeA.eq_4 (And.intro @setN.eq_1 (And.intro @setN.eq_2 (And.intro @getN.eq_1 (And.intro @getN.eq_2 (And.intro @fillA.eq_1 (And.intro @fillA.eq_2 (And.intro @extA.eq_1 (And.intro @extA.eq_2 (And.intro @beqA.eq_1 (And.intro @beqA.eq_2 (And.intro @beqA.eq_3 (And.intro @eqsA.eq_1 (And.intro @eqsA.eq_2 (And.intro @eqsA.eq_3 (And.intro @eqL.eq_1 (And.intro @eqL.eq_2 (And.intro @eqL.eq_3 (And.intro @eqL.eq_4 (And.intro @eqL.eq_5 (And.intro @isnilA.eq_1 (And.intro @isnilA.eq_2 (And.intro @isnilA.eq_3 (And.intro @isnilA.eq_4 (And.intro @isnilA.eq_5 (And.intro @isnilA.eq_6 (And.intro @isnilA.eq_7 (And.intro @isnilA.eq_8 (And.intro @isnilA.eq_9 (And.intro @isnilA.eq_10 (And.intro @unA.eq_1 (And.intro @unA.eq_2 (And.intro @unA.eq_3 (And.intro @unVal.eq_1 (And.intro @unVal.eq_2 (And.intro @unVal.eq_3 (And.intro @unVal.eq_4 (And.intro @unVal.eq_5 (And.intro @unVal.eq_6 (And.intro @convA.eq_1 (And.intro @convA.eq_2 (And.intro @nilA.eq_1 (And.intro @nilA.eq_2 (And.intro @nilA.eq_3 (And.intro @sconvA.eq_1 (And.intro @sconvA.eq_2 (And.intro @b2sA.eq_1 (And.intro @b2sA.eq_2 (And.intro @b2sA.eq_3 (And.intro @b2sA.eq_4 (And.intro @b2sOf.eq_1 (And.intro @bytesOf.eq_1 (And.intro @bytesOf.eq_2 (And.intro @bytesOf.eq_3 (And.intro @mmA.eq_1 (And.intro @mmA.eq_2 (And.intro @mmA.eq_3 (And.intro @srcA.eq_1 (And.intro @srcA.eq_2 (And.intro @srcA.eq_3 (And.intro @srcA.eq_4 (And.intro @appA.eq_1 (And.intro @appA.eq_2 (And.intro @appA.eq_3 (And.intro @sliceA.eq_1 (And.intro @sliceA.eq_2 (And.intro @sliceA.eq_3 (And.intro @sliceA.eq_4 (And.intro @lohi.eq_1 (And.intro @lohi.eq_2 (And.intro @lohi.eq_3 (And.intro @lohi.eq_4 (And.intro @lohi.eq_5 (And.intro @mkslA.eq_1 (And.intro @mkslA.eq_2 (And.intro @mkslA.eq_3 (And.intro @aidxA.eq_1 (And.intro @aidxA.eq_2 (And.intro @aidxA.eq_3 (And.intro @aidxA.eq_4 (And.intro @capA.eq_1 (And.intro @capA.eq_2 (And.intro @appzA.eq_1 (And.intro @appzA.eq_2 (And.intro @appzA.eq_3 (And.intro @appzA.eq_4 (And.intro @appzA.eq_5 (And.intro @copyA.eq_1 (And.intro @copyA.eq_2 (And.intro @slice0A.eq_1 (And.intro @slice0A.eq_2 (And.intro @slice0A.eq_3 (And.intro @slice0A.eq_4 (And.intro @sidxA.eq_1 (And.intro @sidxA.eq_2 (And.intro @sidxA.eq_3 (And.intro @envA.eq_1 (And.intro @rowsM.eq_1 (And.intro @rowsM.eq_2 (And.intro @outW.eq_1 (And.intro @outW.eq_2 (And.intro @fB.eq_1 (And.intro @fI.eq_1 (And.intro @fL.eq_1 (And.intro @fWrs.eq_1 (And.intro @aDk.eq_1 (And.intro @aRec.eq_1 (And.intro @aPt.eq_1 (And.intro @mlookA.eq_1 (And.intro @mlookA.eq_2 (And.intro @mlookA.eq_3 (And.intro @mupdA.eq_1 (And.intro @mupdA.eq_2 (And.intro @mupdA.eq_3 (And.intro @mlenA.eq_1 (And.intro @mlenA.eq_2 (And.intro @mfind.eq_1 (And.intro @mfind.eq_2 (And.intro @mfind.eq_3 (And.intro @mput.eq_1 (And.intro @mput.eq_2 (And.intro @mput.eq_3 (And.intro @oneA.eq_1 (And.intro @oneA.eq_2 (And.intro @oneA.eq_3 (And.intro @oneA.eq_4 (And.intro @oneA.eq_5 (And.intro @oneA.eq_6 (And.intro @oneA.eq_7 (And.intro @ssliceA.eq_1 (And.intro @ssliceA.eq_2 (And.intro @s2bA.eq_1 (And.intro @s2bA.eq_2 (And.intro @mlook0A.eq_1 (And.intro @mlook0A.eq_2 (And.intro @mlook0A.eq_3 (And.intro @keyL.eq_1 (And.intro @keyL.eq_2 (And.intro @keyL.eq_3 (And.intro @keyL.eq_4 @keyL.eq_5)))))))))))))))))))))))))))))))))))))))))))))))))))))))))))))))))))))))))))))))))))))))))))))))))))))))))))))))))))))))))))))))))))))))))))))))))))))))))))))))))))))))))))))))))))))))))))))))))))))))))))))))))))
theorem WT : type_of% (And.intro @tk_B (And.intro @tk_I (And.intro @tk_L (And.intro @tk_Wrs (And.intro @AlL_append (And.intro @renL_append (And.intro @s_envOf (And.intro @s_envOf0 (And.intro @s_heapOf (And.intro @s_heapOf0 (And.intro @s_put (And.intro @s_put0 (And.intro @s_put1 (And.intro @s_app0 (And.intro @s_app1 (And.intro @al_B (And.intro @al_I (And.intro @al_L (And.intro @al_Wrs (And.intro @ren_B (And.intro @ren_I (And.intro @ren_L (And.intro @ren_Wrs (And.intro @okL.eq_1 (And.intro @okL.eq_2 (And.intro @okH.eq_1 (And.intro @okH.eq_2 (And.intro @rowIs.eq_1 (And.intro @rowIs.eq_2 (And.intro @okV.eq_1 (And.intro @okV.eq_2 (And.intro @okHV.eq_1 (And.intro @okHV.eq_2 (And.intro @rowVt.eq_1 (And.intro @rowVt.eq_2 (And.intro @vtL.eq_1 (And.intro @vtL.eq_2 (And.intro @vtL.eq_3 (And.intro @okF.eq_1 (And.intro @okF.eq_2 (And.intro @okHF.eq_1 (And.intro @okHF.eq_2 (And.intro @rowFz.eq_1 (And.intro @rowFz.eq_2 (And.intro @fzL.eq_1 (And.intro @fzL.eq_2 (And.intro @fzL.eq_3 (And.intro @fzV.eq_1 (And.intro @fzV.eq_2 (And.intro @fzOne.eq_1 (And.intro @fzOne.eq_2 (And.intro @fzOne.eq_3 (And.intro @nilLike.eq_1 (And.intro @nilLike.eq_2 (And.intro @oldLike.eq_1 (And.intro @oldLike.eq_2 (And.intro @rn.eq_1 (And.intro @Al.eq_1 (And.intro @Al.eq_2 (And.intro @Al.eq_3 (And.intro @Al.eq_4 (And.intro @Al.eq_5 (And.intro @Al.eq_6 (And.intro @Al.eq_7 (And.intro @Al.eq_8 (And.intro @Al.eq_9 (And.intro @Al.eq_10 (And.intro @Al.eq_11 (And.intro @Al.eq_12 (And.intro @Al.eq_13 (And.intro @Al.eq_14 (And.intro @Al.eq_15 (And.intro @AlL.eq_1 (And.intro @AlL.eq_2 (And.intro @ren.eq_1 (And.intro @ren.eq_2 (And.intro @ren.eq_3 (And.intro @ren.eq_4 (And.intro @ren.eq_5 (And.intro @ren.eq_6 (And.intro @ren.eq_7 (And.intro @ren.eq_8 (And.intro @ren.eq_9 (And.intro @ren.eq_10 (And.intro @ren.eq_11 (And.intro @ren.eq_12 (And.intro @ren.eq_13 (And.intro @ren.eq_14 (And.intro @ren.eq_15 (And.intro @renL.eq_1 (And.intro @renL.eq_2 (And.intro @fB.eq_1 (And.intro @fI.eq_1 (And.intro @fL.eq_1 @fWrs.eq_1)))))))))))))))))))))))))))))))))))))))))))))))))))))))))))))))))))))))))))))))))))))))))))))) := (And.intro @tk_B (And.intro @tk_I (And.intro @tk_L (And.intro @tk_Wrs (And.intro @AlL_append (And.intro @renL_append (And.intro @s_envOf (And.intro @s_envOf0 (And.intro @s_heapOf (And.intro @s_heapOf0 (And.intro @s_put (And.intro @s_put0 (And.intro @s_put1 (And.intro @s_app0 (And.intro @s_app1 (And.intro @al_B (And.intro @al_I (And.intro @al_L (And.intro @al_Wrs (And.intro @ren_B (And.intro @ren_I (And.intro @ren_L (And.intro @ren_Wrs (And.intro @okL.eq_1 (And.intro @okL.eq_2 (And.intro @okH.eq_1 (And.intro @okH.eq_2 (And.intro @rowIs.eq_1 (And.intro @rowIs.eq_2 (And.intro @okV.eq_1 (And.intro @okV.eq_2 (And.intro @okHV.eq_1 (And.intro @okHV.eq_2 (And.intro @rowVt.eq_1 (And.intro @rowVt.eq_2 (And.intro @vtL.eq_1 (And.intro @vtL.eq_2 (And.intro @vtL.eq_3 (And.intro @okF.eq_1 (And.intro @okF.eq_2 (And.intro @okHF.eq_1 (And.intro @okHF.eq_2 (And.intro @rowFz.eq_1 (And.intro @rowFz.eq_2 (And.intro @fzL.eq_1 (And.intro @fzL.eq_2 (And.intro @fzL.eq_3 (And.intro @fzV.eq_1 (And.intro @fzV.eq_2 (And.intro @fzOne.eq_1 (And.intro @fzOne.eq_2 (And.intro @fzOne.eq_3 (And.intro @nilLike.eq_1 (And.intro @nilLike.eq_2 (And.intro @oldLike.eq_1 (And.intro @oldLike.eq_2 (And.intro @rn.eq_1 (And.intro @Al.eq_1 (And.intro @Al.eq_2 (And.intro @Al.eq_3 (And.intro @Al.eq_4 (And.intro @Al.eq_5 (And.intro @Al.eq_6 (And.intro @Al.eq_7 (And.intro @Al.eq_8 (And.intro @Al.eq_9 (And.intro @Al.eq_10 (And.intro @Al.eq_11 (And.intro @Al.eq_12 (And.intro @Al.eq_13 (And.intro @Al.eq_14 (And.intro @Al.eq_15 (And.intro @AlL.eq_1 (And.intro @AlL.eq_2 (And.intro @ren.eq_1 (And.intro @ren.eq_2 (And.intro @ren.eq_3 (And.intro @ren.eq_4 (And.intro @ren.eq_5 (And.intro @ren.eq_6 (And.intro @ren.eq_7 (And.intro @ren.eq_8 (And.intro @ren.eq_9 (And.intro @ren.eq_10 (And.intro @ren.eq_11 (And.intro @ren.eq_12 (And.intro @ren.eq_13 (And.intro @ren.eq_14 (And.intro @ren.eq_15 (And.intro @renL.eq_1 (And.intro @renL.eq_2 (And.intro @fB.eq_1 (And.intro @fI.eq_1 (And.intro @fL.eq_1 @fWrs.eq_1))))))))))))))))))))))))))))))))))))))))))))))))))))))))))))))))))))))))))))))))))))))))))))))
theorem ET : type_of% (And.intro @s_envOf (And.intro @s_envOf0 (And.intro @s_heapOf (And.intro @s_heapOf0 (And.intro @s_put1 (And.intro @s_app0 (And.intro @s_app1 (And.intro @resL.eq_1 (And.intro @resL.eq_2 (And.intro @resOne.eq_1 (And.intro @resOne.eq_2 (And.intro @tupOf.eq_1 (And.intro @tupOf.eq_2 (And.intro @getN.eq_1 @getN.eq_2)))))))))))))) := (And.intro @s_envOf (And.intro @s_envOf0 (And.intro @s_heapOf (And.intro @s_heapOf0 (And.intro @s_put1 (And.intro @s_app0 (And.intro @s_app1 (And.intro @resL.eq_1 (And.intro @resL.eq_2 (And.intro @resOne.eq_1 (And.intro @resOne.eq_2 (And.intro @tupOf.eq_1 (And.intro @tupOf.eq_2 (And.intro @getN.eq_1 @getN.eq_2))))))))))))))
end Go.Proofs.YtonglhkiobibgaaGreatDoor
