/- Merged texts: A0, GL, A1, A2, A3, A4, A5, A6, A7, AX, AY, A8, A9, BS, AA, AB. -/
import Derived.WalkKit
import Derived.Below
import Derived.KernelRfl
import Derived.Deep.MidRow
import Derived.Deep.AppendSrc
import Derived.Laws.MakeOwn
import Derived.Laws.Cover3
import Derived.Laws.StructEq
import Derived.Laws.BytesString
import Derived.Laws.Cells
import Derived.Laws.IdiomCopy
import Derived.Orders
import Derived.RangeFuncFrom
import Derived.OrdersIn
import Derived.CallsIn
import Derived.ControlIn
set_option linter.unusedSimpArgs false
set_option linter.unusedVariables false
namespace Go.Proofs.YtdenddhdeloceaaGreatDoor

/-- What may become of another's block: nothing; octets, bools of whatever value; anything. -/
inductive WK where
  | no
  | u8
  | bl
  | free
instance : DecidableEq WK := fun a b => by cases a <;> cases b <;> first | exact .isTrue rfl | exact .isFalse (fun h => by cases h)
def kindIs : WK → Value → Prop
  | .u8, x => ∃ n, x = .int .u8 n
  | .bl, x => ∃ b, x = .bool b
  | _, _ => False
/-- What is known of a value: nothing; all; a slice (pointer) of memory that nobody writes any more, with its cells; a slice (pointer) of a row that the run holds, by its name; a struct; a tuple. -/
inductive AV where
  | any
  | v (x : Value)
  | fs (fr : Bool) (cs : List AV) (n : Nat)
  | fp (fr : Bool) (cs : List AV) (off : Nat)
  | os (id off n sz : Nat)
  | op (id off : Nat)
  | agg (l : List AV)
  | tup (l : List AV)
  | fn (f : Nat) (l : List AV)
  | ws (k : WK) (n : Nat)
  | wp (k : WK)
  | wv (k : WK)
  | us (fr : Bool) (e : Nat) (cs : List AV) (n : Nat)
  | ifc (t : Nat) (a : AV)

/-- What a name stands for: a row of cells. -/
inductive AObj where
  | row (young : Bool) (elem : Nat) (cells : List AV)

abbrev Heap := Nat → Option AObj

/-- A moment: the memory, the bound of what is young, where the names lie (none: nowhere; some none: an empty row without a block), what is held, and what is another's. -/
structure Cx where
  w : World
  B : Nat
  φ : Nat → Option (Option Nat)
  σ : Heap
  X : Nat → Prop
  Y : Nat → WK

/-- the blocks of what is held -/
def Cx.T (c : Cx) (b : Nat) : Prop := ∃ id o, c.σ id = some o ∧ c.φ id = some (some b)
def Cx.ok (c : Cx) (fr : Bool) (b : Nat) : Prop := (fr = true → c.B ≤ b) ∧ ¬ c.T b ∧ ¬ c.X b
def Typed (w : World) (k : WK) (b sz : Nat) : Prop := ∃ (cs : Array Value) (e : TypeId), w.heap[b]? = some (.cells cs e (0, 0)) ∧ sz ≤ cs.size ∧ ∀ (j : Nat) x, j < sz → cs[j]? = some x → kindIs k x
/-- a block of another's that may be written: off + n of its cells are there -/
def Cx.wok (c : Cx) (k : WK) (b n : Nat) : Prop := c.X b ∧ ¬ c.T b ∧ c.Y b = k ∧ (k = .u8 ∨ k = .bl) ∧ ∃ sz, Typed c.w k b sz ∧ n ≤ sz

mutual
def VR (c : Cx) : AV → Value → Prop
  | .any, _ => True
  | .v x, u => u = x
  | .fs fr cs n, u => ∃ A k, u = .slice A n k ∧ n ≤ k ∧ (n ≠ 0 → ∃ b off, A = some ⟨b, off, none⟩ ∧ b < c.w.heap.size ∧ c.ok fr b ∧ VRm c b off cs)
  | .fp fr cs d, u => ∃ b off, u = .pointer (some ⟨b, off + d, none⟩) ∧ b < c.w.heap.size ∧ c.ok fr b ∧ VRm c b off cs
  | .os id off n sz, u => ∃ A k, u = .slice A n k ∧ n ≤ k ∧
      ((c.φ id ≠ none ∧ k = 0) ∨ ∃ b, c.φ id = some (some b) ∧ A = some ⟨b, off, none⟩ ∧ ∃ cs e f, c.w.heap[b]? = some (.cells cs e f) ∧ off + k * sz ≤ cs.size)
  | .op id off, u => ∃ b, c.φ id = some (some b) ∧ u = .pointer (some ⟨b, off, none⟩)
  | .agg l, u => ∃ us, u = .agg (List.toArray us) ∧ VRl c l us
  | .tup l, u => ∃ us, u = .tuple (List.toArray us) ∧ VRt c l us
  | .fn f l, u => ∃ us, u = .func (.func f) #[] (List.toArray us) ∧ VRt c l us
  | .ws k n, u => ∃ A q, u = .slice A n q ∧ n ≤ q ∧ (n ≠ 0 → ∃ b off, A = some ⟨b, off, none⟩ ∧ c.wok k b (off + n))
  | .wp k, u => ∃ b off, u = .pointer (some ⟨b, off, none⟩) ∧ c.wok k b (off + 1)
  | .wv k, u => kindIs k u
  | .us fr e cs n, u => ∃ A k, u = .slice A n k ∧ n ≤ k ∧ (n ≠ 0 → ∃ b, A = some ⟨b, 0, none⟩ ∧ c.ok fr b ∧ (∃ vs, c.w.heap[b]? = some (.cells vs e (0, 0))) ∧ VRm c b 0 cs)
  | .ifc t a, u => ∃ v, u = .iface t v ∧ VR c a v
def VRm (c : Cx) (b off : Nat) : List AV → Prop
  | [] => True
  | a :: r => (∃ u, c.w.cell? ⟨b, off, none⟩ = some u ∧ u.oneCell' = true ∧ VR c a u) ∧ VRm c b (off + 1) r
def VRl (c : Cx) : List AV → List Value → Prop
  | [], us => us = []
  | a :: r, us => ∃ u us', us = u :: us' ∧ u.oneCell' = true ∧ VR c a u ∧ VRl c r us'
def VRt (c : Cx) : List AV → List Value → Prop
  | [], us => us = []
  | a :: r, us => ∃ u us', us = u :: us' ∧ VR c a u ∧ VRt c r us'
end

theorem VRm_iff {c : Cx} {b : Nat} : ∀ {cs : List AV} {off : Nat}, VRm c b off cs ↔ ∀ (j : Nat) a, cs[j]? = some a → ∃ u, c.w.cell? ⟨b, off + j, none⟩ = some u ∧ u.oneCell' = true ∧ VR c a u
  | [], off => by simp [VRm]
  | a :: r, off => by
    rw [VRm, VRm_iff (cs := r)]
    constructor
    · rintro ⟨h0, h⟩ j a' hj
      cases j with
      | zero => simp at hj; subst hj; exact h0
      | succ j => simp at hj; have := h j a' hj; rwa [Nat.add_assoc, Nat.add_comm 1 j] at this
    · intro h
      refine ⟨h 0 a rfl, fun j a' hj => ?_⟩
      have := h (j + 1) a' (by simpa using hj)
      rwa [Nat.add_assoc, Nat.add_comm 1 j]
theorem VRl_iff {c : Cx} : ∀ {cs : List AV} {us : List Value}, VRl c cs us ↔ us.length = cs.length ∧ ∀ (j : Nat) a, cs[j]? = some a → ∃ u, us[j]? = some u ∧ u.oneCell' = true ∧ VR c a u
  | [], us => by simp [VRl]
  | a :: r, us => by
    rw [VRl]
    constructor
    · rintro ⟨u, us', rfl, h1, h2, h3⟩
      rw [VRl_iff (cs := r)] at h3
      refine ⟨by simp [h3.1], fun j a' hj => ?_⟩
      cases j with
      | zero => simp at hj; subst hj; exact ⟨u, rfl, h1, h2⟩
      | succ j => simp at hj; simpa using h3.2 j a' hj
    · rintro ⟨hl, h⟩
      cases us with
      | nil => simp at hl
      | cons u us' =>
        obtain ⟨u', e, h1, h2⟩ := h 0 a rfl
        simp at e
        subst e
        refine ⟨u, us', rfl, h1, h2, VRl_iff.2 ⟨by simpa using hl, fun j a' hj => ?_⟩⟩
        simpa using h (j + 1) a' (by simpa using hj)
theorem VRt_iff {c : Cx} : ∀ {cs : List AV} {us : List Value}, VRt c cs us ↔ us.length = cs.length ∧ ∀ (j : Nat) a, cs[j]? = some a → ∃ u, us[j]? = some u ∧ VR c a u
  | [], us => by simp [VRt]
  | a :: r, us => by
    rw [VRt]
    constructor
    · rintro ⟨u, us', rfl, h2, h3⟩
      rw [VRt_iff (cs := r)] at h3
      refine ⟨by simp [h3.1], fun j a' hj => ?_⟩
      cases j with
      | zero => simp at hj; subst hj; exact ⟨u, rfl, h2⟩
      | succ j => simp at hj; simpa using h3.2 j a' hj
    · rintro ⟨hl, h⟩
      cases us with
      | nil => simp at hl
      | cons u us' =>
        obtain ⟨u', e, h2⟩ := h 0 a rfl
        simp at e
        subst e
        refine ⟨u, us', rfl, h2, VRt_iff.2 ⟨by simpa using hl, fun j a' hj => ?_⟩⟩
        simpa using h (j + 1) a' (by simpa using hj)

/-- From one moment to a later one: what is not held stays. -/
structure Grow (c d : Cx) : Prop where
  X : d.X = c.X
  B : d.B = c.B
  out : d.w.output = c.w.output
  osE : d.w.os = c.w.os
  tape : d.w.tape = c.w.tape
  size : c.w.heap.size ≤ d.w.heap.size
  stay : ∀ b, b < c.w.heap.size → ¬ c.T b → (c.X b → c.Y b = .no) → d.w.heap[b]? = c.w.heap[b]?
  held : ∀ b, d.T b → c.T b ∨ c.w.heap.size ≤ b
  shape : ∀ (b : Nat) (cs : Array Value) (e : TypeId) (f : Nat × Nat), c.w.heap[b]? = some (Obj.cells cs e f) → ∃ (cs' : Array Value) (f' : Nat × Nat), d.w.heap[b]? = some (Obj.cells cs' e f') ∧ cs'.size = cs.size
  Y : d.Y = c.Y
  wild : ∀ b k sz, ¬ c.T b → c.X b → c.Y b = k → (k = .u8 ∨ k = .bl) → Typed c.w k b sz → Typed d.w k b sz
theorem Typed.lt {w : World} {k : WK} {b sz : Nat} (h : Typed w k b sz) : b < w.heap.size := by
  obtain ⟨cs, e, h, _⟩ := h
  exact (Array.getElem?_eq_some_iff.1 h).1
/-- a step that writes nothing of another's -/
structure Still (c d : Cx) : Prop where
  Y : d.Y = c.Y
  X : d.X = c.X
  B : d.B = c.B
  out : d.w.output = c.w.output
  osE : d.w.os = c.w.os
  tape : d.w.tape = c.w.tape
  size : c.w.heap.size ≤ d.w.heap.size
  stay : ∀ b, b < c.w.heap.size → ¬ c.T b → d.w.heap[b]? = c.w.heap[b]?
  held : ∀ b, d.T b → c.T b ∨ c.w.heap.size ≤ b
  shape : ∀ (b : Nat) (cs : Array Value) (e : TypeId) (f : Nat × Nat), c.w.heap[b]? = some (Obj.cells cs e f) → ∃ (cs' : Array Value) (f' : Nat × Nat), d.w.heap[b]? = some (Obj.cells cs' e f') ∧ cs'.size = cs.size
theorem Still.grow {c d : Cx} (h : Still c d) : Grow c d :=
  ⟨h.X, h.B, h.out, h.osE, h.tape, h.size, fun b h1 h2 _ => h.stay b h1 h2, h.held, h.shape, h.Y, fun b k sz h1 _ _ _ h5 => by
    obtain ⟨cs, e, h6, h7⟩ := h5
    exact ⟨cs, e, (h.stay b (Array.getElem?_eq_some_iff.1 h6).1 h1).trans h6, h7⟩⟩
theorem Grow.refl (c : Cx) : Grow c c := Still.grow ⟨rfl, rfl, rfl, rfl, rfl, rfl, Nat.le_refl _, fun _ _ _ => rfl, fun _ h => .inl h, fun _ cs _ f h => ⟨cs, f, h, rfl⟩⟩
theorem Grow.trans {a b c : Cx} (h : Grow a b) (k : Grow b c) : Grow a c := by
  have nt : ∀ x, x < a.w.heap.size → ¬ a.T x → ¬ b.T x := fun x hx ht hb => by
    rcases h.held x hb with h' | h'
    · exact ht h'
    · omega
  refine ⟨k.X.trans h.X, k.B.trans h.B, k.out.trans h.out, k.osE.trans h.osE, k.tape.trans h.tape, Nat.le_trans h.size k.size, fun x hx ht hy => ?_, fun x hx => ?_, fun x cs e f hc => ?_, k.Y.trans h.Y, fun x q sz h1 h2 h3 h4 h5 => ?_⟩
  · exact (k.stay x (Nat.lt_of_lt_of_le hx h.size) (nt x hx ht) (by rw [h.X, h.Y]; exact hy)).trans (h.stay x hx ht hy)
  · rcases k.held x hx with h' | h'
    · exact h.held x h'
    · exact .inr (Nat.le_trans h.size h')
  · obtain ⟨cs1, f1, h1, e1⟩ := h.shape x cs e f hc
    obtain ⟨cs2, f2, h2, e2⟩ := k.shape x cs1 e f1 h1
    exact ⟨cs2, f2, h2, e2.trans e1⟩
  · exact k.wild x q sz (nt x h5.lt h1) (by rw [h.X]; exact h2) (by rw [h.Y]; exact h3) h4 (h.wild x q sz h1 h2 h3 h4 h5)
/-- the names stay where they are -/
def Names (c d : Cx) : Prop := ∀ id x, c.φ id = some x → d.φ id = some x
theorem Names.refl (c : Cx) : Names c c := fun _ _ h => h
theorem Names.trans {a b c : Cx} (h : Names a b) (k : Names b c) : Names a c := fun id x hx => k id x (h id x hx)

theorem cell_lt {w : World} {b o : Nat} {u : Value} (h : w.cell? ⟨b, o, none⟩ = some u) : b < w.heap.size := World.block_lt_of_cell? w _ h
theorem Grow.okk {c d : Cx} (g : Grow c d) {fr : Bool} {b : Nat} (h : c.ok fr b) (hb : b < c.w.heap.size) : d.ok fr b := by
  refine ⟨fun e => by rw [g.B]; exact h.1 e, fun ht => ?_, by rw [g.X]; exact h.2.2⟩
  rcases g.held b ht with h' | h'
  · exact h.2.1 h'
  · omega
theorem Grow.wokk {c d : Cx} (g : Grow c d) {k : WK} {b n : Nat} (h : c.wok k b n) : d.wok k b n := by
  obtain ⟨h1, h2, h3, h4, sz, h5, h6⟩ := h
  refine ⟨by rw [g.X]; exact h1, fun ht => ?_, by rw [g.Y]; exact h3, h4, sz, g.wild b k sz h2 h1 h3 h4 h5, h6⟩
  rcases g.held b ht with h' | h'
  · exact h2 h'
  · have := h5.lt; omega
mutual
theorem VR.mono {c d : Cx} (g : Grow c d) (n : Names c d) : ∀ {a : AV} {u : Value}, VR c a u → VR d a u
  | .any, u, _ => trivial
  | .v x, u, h => h
  | .fs fr cs m, u, h => by
    obtain ⟨A, k, rfl, hk, hc⟩ := h
    refine ⟨A, k, rfl, hk, fun hne => ?_⟩
    obtain ⟨b, off, rfl, hlt, ho, hm⟩ := hc hne
    exact ⟨b, off, rfl, Nat.lt_of_lt_of_le hlt g.size, g.okk ho hlt, VRm.mono g n ho.2.1 ho.2.2 hm⟩
  | .fp fr cs m, u, h => by
    obtain ⟨b, off, rfl, hlt, ho, hm⟩ := h
    exact ⟨b, off, rfl, Nat.lt_of_lt_of_le hlt g.size, g.okk ho hlt, VRm.mono g n ho.2.1 ho.2.2 hm⟩
  | .os id off m sz, u, h => by
    obtain ⟨A, k, rfl, hk, hc⟩ := h
    refine ⟨A, k, rfl, hk, ?_⟩
    rcases hc with ⟨h1, h2⟩ | ⟨b, h1, rfl, cs, e, f, h2, h3⟩
    · obtain ⟨x, hx⟩ := Option.ne_none_iff_exists'.1 h1
      exact .inl ⟨by rw [n _ _ hx]; simp, h2⟩
    · obtain ⟨cs', f', h4, h5⟩ := g.shape b cs e f h2
      exact .inr ⟨b, n _ _ h1, rfl, cs', e, f', h4, by omega⟩
  | .op id off, u, h => by
    obtain ⟨b, h1, rfl⟩ := h
    exact ⟨b, n _ _ h1, rfl⟩
  | .agg l, u, h => by
    obtain ⟨us, rfl, h⟩ := h
    exact ⟨us, rfl, VRl.mono g n h⟩
  | .tup l, u, h => by
    obtain ⟨us, rfl, h⟩ := h
    exact ⟨us, rfl, VRt.mono g n h⟩
  | .fn f l, u, h => by
    obtain ⟨us, rfl, h⟩ := h
    exact ⟨us, rfl, VRt.mono g n h⟩
  | .ws k m, u, h => by
    obtain ⟨A, q, rfl, hk, hc⟩ := h
    refine ⟨A, q, rfl, hk, fun hne => ?_⟩
    obtain ⟨b, off, rfl, hw⟩ := hc hne
    exact ⟨b, off, rfl, g.wokk hw⟩
  | .wp k, u, h => by
    obtain ⟨b, off, rfl, hw⟩ := h
    exact ⟨b, off, rfl, g.wokk hw⟩
  | .wv k, u, h => h
  | .us fr e cs m, u, h => by
    obtain ⟨A, k, rfl, hk, hc⟩ := h
    refine ⟨A, k, rfl, hk, fun hne => ?_⟩
    obtain ⟨b, rfl, ho, ⟨vs, hv⟩, hm⟩ := hc hne
    have hlt := (Array.getElem?_eq_some_iff.1 hv).1
    exact ⟨b, rfl, g.okk ho hlt, ⟨vs, (g.stay b hlt ho.2.1 (fun h => absurd h ho.2.2)).trans hv⟩, VRm.mono g n ho.2.1 ho.2.2 hm⟩
  | .ifc t a, u, h => by
    obtain ⟨v, rfl, h⟩ := h
    exact ⟨v, rfl, VR.mono g n h⟩
theorem VRm.mono {c d : Cx} (g : Grow c d) (n : Names c d) {b : Nat} (hb : ¬ c.T b) (hx : ¬ c.X b) : ∀ {cs : List AV} {off : Nat}, VRm c b off cs → VRm d b off cs
  | [], _, _ => trivial
  | a :: r, off, h => by
    rw [VRm] at h ⊢
    obtain ⟨⟨u, h1, h2, h3⟩, h4⟩ := h
    exact ⟨⟨u, (World.cell?_of_block (w := c.w) (g.stay b (cell_lt h1) hb (fun h => absurd h hx))).trans h1, h2, VR.mono g n h3⟩, VRm.mono g n hb hx h4⟩
theorem VRl.mono {c d : Cx} (g : Grow c d) (n : Names c d) : ∀ {cs : List AV} {us : List Value}, VRl c cs us → VRl d cs us
  | [], _, h => h
  | a :: r, us, h => by
    rw [VRl] at h ⊢
    obtain ⟨u, us', rfl, h1, h2, h3⟩ := h
    exact ⟨u, us', rfl, h1, VR.mono g n h2, VRl.mono g n h3⟩
theorem VRt.mono {c d : Cx} (g : Grow c d) (n : Names c d) : ∀ {cs : List AV} {us : List Value}, VRt c cs us → VRt d cs us
  | [], _, h => h
  | a :: r, us, h => by
    rw [VRt] at h ⊢
    obtain ⟨u, us', rfl, h2, h3⟩ := h
    exact ⟨u, us', rfl, VR.mono g n h2, VRt.mono g n h3⟩
end
end Go.Proofs.YtdenddhdeloceaaGreatDoor
namespace Go.Proofs.YtdenddhdeloceaaGreatDoor
/-- by its block: what the variable's one cell holds -/
def GLOB : Nat → Option Value := fun b => if b = 0 then some (.iface 190 (.agg #[.pointer (some ⟨3, 111, none⟩)])) else none
end Go.Proofs.YtdenddhdeloceaaGreatDoor
namespace Go.Proofs.YtdenddhdeloceaaGreatDoor

/-- package-level variables that are never written hold what they held -/
def Gl (c : Cx) : Prop := ∀ b v, GLOB b = some v → c.w.cell? ⟨b, 0, none⟩ = some v ∧ ¬ c.T b ∧ (c.X b → c.Y b = .no)
theorem Gl.to {c d : Cx} (h : Gl c) (hs : ∀ b, b < c.w.heap.size → ¬ c.T b → (c.X b → c.Y b = .no) → d.w.heap[b]? = c.w.heap[b]? ∧ ¬ d.T b ∧ (d.X b → d.Y b = .no)) : Gl d := by
  intro b v hb
  obtain ⟨h1, h2, h3⟩ := h b v hb
  obtain ⟨k1, k2, k3⟩ := hs b (cell_lt h1) h2 h3
  exact ⟨(World.cell?_of_block (w := c.w) k1).trans h1, k2, k3⟩
theorem Gl.grow {c d : Cx} (h : Gl c) (g : Grow c d) : Gl d := h.to fun b hb h2 h3 => by
  refine ⟨g.stay b hb h2 h3, fun ht => ?_, by rw [g.X, g.Y]; exact h3⟩
  rcases g.held b ht with h' | h'
  · exact h2 h'
  · omega
/-- the rows that are held lie where their names say, each in a block of its own -/
structure HR (c : Cx) : Prop where
  row : ∀ id y e cells, c.σ id = some (.row y e cells) → (c.φ id = some none ∧ cells = []) ∨ ∃ b cs, c.φ id = some (some b) ∧ c.w.heap[b]? = some (.cells cs e (0, 0)) ∧
    ((y = true → c.B ≤ b) ∧ ¬ c.X b) ∧ cells.length ≤ cs.size ∧ ∀ (j : Nat) a, cells[j]? = some a → ∃ u, cs[j]? = some u ∧ u.oneCell' = true ∧ VR c a u
  inj : ∀ id id' b, c.σ id ≠ none → c.σ id' ≠ none → c.φ id = some (some b) → c.φ id' = some (some b) → id = id'
  base : c.B ≤ c.w.heap.size
  xlt : ∀ b, c.X b → b < c.w.heap.size
  gl : Gl c

/-- What an operation does: it yields a value and leaves rows; it may look at rows. -/
inductive AM where
  | fail
  | ret (r : AV) (W : List (Nat × Option AObj))
  | rd (id : Nat) (k : AObj → AM)
def AM.run (σ : Heap) : AM → Option (AV × List Nat × List (Nat × Option AObj))
  | .fail => none
  | .ret r W => some (r, [], W)
  | .rd id k => match σ id with
    | some o => match (k o).run σ with
      | some (r, R, W) => some (r, id :: R, W)
      | none => none
    | none => none
def app (σ : Heap) : List (Nat × Option AObj) → Heap
  | [] => σ
  | (id, o) :: W => app (fun k => if k = id then o else σ k) W

/-- cells, and cells of a list -/
def cellsOf : AV → Option (List AV)
  | .agg l => some l
  | .v (.agg cs) => if cs.toList.all (·.oneCell') then some (cs.toList.map .v) else none
  | .v (.tuple _) | .any | .tup _ => none
  | a => some [a]
def getN (l : List AV) (off : Nat) : Nat → Option (List AV)
  | 0 => some []
  | n + 1 => match l[off]? with
    | some a => match getN l (off + 1) n with
      | some r => some (a :: r)
      | none => none
    | none => none
def setN (l : List AV) (off : Nat) : List AV → List AV
  | [] => l
  | a :: r => setN (l.set off a) (off + 1) r
/-- parts at their places, each of its size -/
def fillA (ρ : Operand → AV) (l : List AV) : List (Nat × Nat × Operand) → Option (List AV)
  | [] => some l
  | (off, sz, x) :: r => match cellsOf (ρ x) with
    | some cs => if cs.length = sz ∧ off + sz ≤ l.length then fillA ρ (setN l off cs) r else none
    | none => none

theorem getN_spec : ∀ {n : Nat} {l : List AV} {off : Nat} {r : List AV}, getN l off n = some r → r.length = n ∧ ∀ (j : Nat) a, r[j]? = some a → l[off + j]? = some a
  | 0, l, off, r, h => by simp [getN] at h; subst h; simp
  | n + 1, l, off, r, h => by
    rw [getN] at h
    split at h
    · rename_i a ha
      split at h
      · rename_i r' hr
        simp at h
        subst h
        obtain ⟨h1, h2⟩ := getN_spec hr
        refine ⟨by simp [h1], fun j b hb => ?_⟩
        cases j with
        | zero => simp at hb; subst hb; exact ha
        | succ j => simp at hb; have := h2 j b hb; rwa [Nat.add_assoc, Nat.add_comm 1 j] at this
      · cases h
    · cases h
theorem setN_length : ∀ {vs : List AV} {l : List AV} {off : Nat}, (setN l off vs).length = l.length
  | [], _, _ => rfl
  | a :: r, l, off => by rw [setN, setN_length]; simp
theorem setN_get : ∀ {vs : List AV} {l : List AV} {off : Nat} (j : Nat), off + vs.length ≤ l.length → (setN l off vs)[j]? = if off ≤ j ∧ j < off + vs.length then vs[j - off]? else l[j]?
  | [], l, off, j, _ => by simp [setN]; intro h1 h2; omega
  | a :: r, l, off, j, h => by
    rw [setN, setN_get j (by simp at h ⊢; omega)]
    simp only [List.length_cons] at h ⊢
    by_cases h1 : off + 1 ≤ j ∧ j < off + 1 + r.length
    · rw [if_pos h1, if_pos (by omega), show j - off = j - (off + 1) + 1 from by omega]; simp
    · rw [if_neg h1]
      by_cases h2 : j = off
      · subst h2; rw [if_pos (by omega), List.getElem?_set_self (by omega)]; simp
      · rw [if_neg (by omega), List.getElem?_set_ne (Ne.symm h2)]

theorem VR_cellsOf {c : Cx} {a : AV} {u : Value} {l : List AV} (h : VR c a u) (hl : cellsOf a = some l) : VRl c l u.cells.toList := by
  have one : ∀ u : Value, u.oneCell' = true → u.cells.toList = [u] := fun u hu => by cases u <;> simp_all [Value.cells, Value.oneCell']
  have put : ∀ {a : AV} {u : Value}, VR c a u → u.oneCell' = true → VRl c [a] u.cells.toList := fun h hu => by rw [one _ hu]; exact ⟨_, _, rfl, hu, h, rfl⟩
  cases a with
  | any => simp [cellsOf] at hl
  | v x =>
    cases x with
    | agg cs =>
      simp only [cellsOf] at hl
      split at hl
      · rename_i hall
        simp at hl
        subst hl
        have e : u = .agg cs := h
        subst e
        rw [VRl_iff]
        refine ⟨by simp [Value.cells], fun j a hj => ?_⟩
        rw [List.getElem?_map, Option.map_eq_some_iff] at hj
        obtain ⟨x, hx, rfl⟩ := hj
        exact ⟨x, hx, List.all_eq_true.1 hall x (List.mem_of_getElem? hx), rfl⟩
      · cases hl
    | tuple _ => simp [cellsOf] at hl
    | _ => (have e := h; simp only [VR] at e; subst e; simp only [cellsOf, Option.some.injEq] at hl; subst hl; exact put h rfl)
  | agg l' =>
    simp only [cellsOf, Option.some.injEq] at hl
    subst hl
    obtain ⟨us, rfl, h⟩ := h
    simpa [Value.cells] using h
  | tup _ => simp [cellsOf] at hl
  | fs fr cs n => (simp only [cellsOf, Option.some.injEq] at hl; subst hl; refine put h ?_; obtain ⟨A, k, rfl, _⟩ := h; rfl)
  | fp fr cs n => (simp only [cellsOf, Option.some.injEq] at hl; subst hl; refine put h ?_; obtain ⟨A, k, rfl, _⟩ := h; rfl)
  | os id off n sz => (simp only [cellsOf, Option.some.injEq] at hl; subst hl; refine put h ?_; obtain ⟨A, k, rfl, _⟩ := h; rfl)
  | fn f l => (simp only [cellsOf, Option.some.injEq] at hl; subst hl; refine put h ?_; obtain ⟨us, rfl, _⟩ := h; rfl)
  | ws k n => (simp only [cellsOf, Option.some.injEq] at hl; subst hl; refine put h ?_; obtain ⟨A, q, rfl, _⟩ := h; rfl)
  | wp k => (simp only [cellsOf, Option.some.injEq] at hl; subst hl; refine put h ?_; obtain ⟨b, off, rfl, _⟩ := h; rfl)
  | ifc t x => (simp only [cellsOf, Option.some.injEq] at hl; subst hl; refine put h ?_; obtain ⟨x, rfl, _⟩ := h; rfl)
  | us fr e cs n => (simp only [cellsOf, Option.some.injEq] at hl; subst hl; refine put h ?_; obtain ⟨A, k, rfl, _⟩ := h; rfl)
  | wv k => (simp only [cellsOf, Option.some.injEq] at hl; subst hl; refine put h ?_; cases k <;> first | (obtain ⟨n, rfl⟩ := h; rfl) | exact h.elim)
  | op id off => (simp only [cellsOf, Option.some.injEq] at hl; subst hl; refine put h ?_; obtain ⟨A, _, rfl⟩ := h; rfl)

/-- A new moment behind an operation. -/
structure Then (c : Cx) (nb : Nat) (W : List (Nat × Option AObj)) (d : Cx) : Prop where
  grow : Grow c d
  names : Names c d
  hr : HR d
  σ : d.σ = app c.σ W
  fresh : ∀ id, d.φ id ≠ none → c.φ id ≠ none ∨ (nb ≤ id ∧ id < nb + 100000)

/-- the same moment, another tape place -/
def Cx.at (c : Cx) (w : World) : Cx := { c with w := w }
theorem VR.same {c : Cx} {a : AV} {u : Value} (h : VR c a u) : VR c a u := h
theorem Then.refl {c : Cx} (h : HR c) (nb : Nat) : Then c nb [] c := ⟨Grow.refl c, Names.refl c, h, rfl, fun _ h => .inl h⟩

/-- What a run of an operation leaves: a value, and a moment. -/
def Gives (P : Program) (s : Sem Value) (c : Cx) (am : AM) (nb : Nat) : Prop :=
  ∀ r R W, am.run c.σ = some (r, R, W) → HR c → (∀ id, nb ≤ id → c.φ id = none ∨ nb + 100000 ≤ id) → ∃ v d, s.run P c.w = .ok v d.w ∧ VR d r v ∧ Then c nb W d
theorem Gives.pure {P : Program} {c : Cx} {nb : Nat} {s : Sem Value} {r : AV} {v : Value} (hs : s.run P c.w = .ok v c.w) (hv : VR c r v) : Gives P s c (.ret r []) nb := by
  intro r' R W h hr _
  simp [AM.run] at h
  obtain ⟨rfl, rfl, rfl⟩ := h
  exact ⟨v, c, hs, hv, Then.refl hr nb⟩
end Go.Proofs.YtdenddhdeloceaaGreatDoor
namespace Go.Proofs.YtdenddhdeloceaaGreatDoor
open Go.RowKit

/-- cells of a block, written from an offset on -/
def setA (cs : Array Value) (o : Nat) : List Value → Array Value
  | [] => cs
  | v :: r => setA (cs.setIfInBounds o v) (o + 1) r
theorem setA_size : ∀ (vs : List Value) (cs : Array Value) (o : Nat), (setA cs o vs).size = cs.size
  | [], _, _ => rfl
  | v :: r, cs, o => by rw [setA, setA_size]; simp
theorem setA_get : ∀ (vs : List Value) (cs : Array Value) (o j : Nat), o + vs.length ≤ cs.size → (setA cs o vs)[j]? = if o ≤ j ∧ j < o + vs.length then vs[j - o]? else cs[j]?
  | [], cs, o, j, _ => by simp [setA]; intro h1 h2; omega
  | v :: r, cs, o, j, h => by
    rw [setA, setA_get r _ _ _ (by simp at h ⊢; omega)]
    simp only [List.length_cons] at h ⊢
    by_cases h1 : o + 1 ≤ j ∧ j < o + 1 + r.length
    · rw [if_pos h1, if_pos (by omega), show j - o = j - (o + 1) + 1 from by omega]; simp
    · rw [if_neg h1]
      by_cases h2 : j = o
      · subst h2; rw [if_pos (by omega)]; simp [show j < cs.size from by omega]
      · rw [if_neg (by omega), Array.getElem?_setIfInBounds_ne (Ne.symm h2)]
theorem setCells_heap {b : Nat} {e : TypeId} {f : Nat × Nat} : ∀ (vs : List Value) (w : World) (cs : Array Value) (o : Nat), w.heap[b]? = some (.cells cs e f) → (w.setCells b o vs).heap[b]? = some (.cells (setA cs o vs) e f)
  | [], _, _, _, h => h
  | v :: r, w, cs, o, h => by
    rw [World.setCells, setA]
    refine setCells_heap r _ _ _ ?_
    simp only [World.setCell]
    rw [Array.getElem?_modify]
    simp [h]
theorem setCells_other {b k : Nat} (hk : k ≠ b) : ∀ (vs : List Value) (w : World) (o : Nat), (w.setCells b o vs).heap[k]? = w.heap[k]?
  | [], _, _ => rfl
  | v :: r, w, o => by rw [World.setCells, setCells_other hk r]; exact Below.heap_setCell w _ v k hk
theorem setCells_out (b : Nat) : ∀ (vs : List Value) (w : World) (o : Nat), (w.setCells b o vs).heap.size = w.heap.size ∧ (w.setCells b o vs).output = w.output ∧ (w.setCells b o vs).os = w.os ∧ (w.setCells b o vs).tape = w.tape
  | [], _, _ => ⟨rfl, rfl, rfl, rfl⟩
  | v :: r, w, o => by
    rw [World.setCells]
    obtain ⟨h1, h2, h3, h4⟩ := setCells_out b r (w.setCell ⟨b, o, none⟩ v) (o + 1)
    exact ⟨by rw [h1]; simp [World.setCell], by rw [h2]; rfl, by rw [h3]; rfl, by rw [h4]; rfl⟩
theorem heap_new (w : World) (o : Obj) : (w.alloc o).heap[w.heap.size]? = some o := heap_alloc_new w o
theorem size_new (w : World) (o : Obj) : w.heap.size ≤ (w.alloc o).heap.size := by rw [World.size_alloc]; exact Nat.le_succ _

theorem HR.noRow {c : Cx} (h : HR c) {id : Nat} (hn : c.φ id = none) : c.σ id = none := by
  cases hs : c.σ id with
  | none => rfl
  | some o =>
    obtain ⟨y, e, cells⟩ := o
    rcases h.row id y e cells hs with ⟨h1, _⟩ | ⟨b, cs, h1, _⟩ <;> rw [hn] at h1 <;> cases h1
def Cx.put (c : Cx) (w : World) (id : Nat) (x : Option Nat) (W : List (Nat × Option AObj)) : Cx := ⟨w, c.B, fun k => if k = id then some x else c.φ k, app c.σ W, c.X, c.Y⟩

/-- another tape place -/
theorem Then.drew {c : Cx} (h : HR c) (nb : Nat) : Then c nb [] ⟨c.w.drew, c.B, c.φ, c.σ, c.X, c.Y⟩ := by
  have g : Grow c ⟨c.w.drew, c.B, c.φ, c.σ, c.X, c.Y⟩ := Still.grow ⟨rfl, rfl, rfl, rfl, rfl, rfl, Nat.le_refl _, fun _ _ _ => rfl, fun _ h => .inl h, fun _ cs _ f h => ⟨cs, f, h, rfl⟩⟩
  have n : Names c ⟨c.w.drew, c.B, c.φ, c.σ, c.X, c.Y⟩ := fun _ _ h => h
  refine ⟨g, n, ⟨fun id y e cells hs => ?_, h.inj, h.base, h.xlt, h.gl.grow g⟩, rfl, fun _ h => .inl h⟩
  rcases h.row id y e cells hs with h1 | ⟨b, cs, h1, h2, h3, h4, h5⟩
  · exact .inl h1
  · exact .inr ⟨b, cs, h1, h2, h3, h4, fun j a hj => by obtain ⟨u, e1, e2, e3⟩ := h5 j a hj; exact ⟨u, e1, e2, e3.mono g n⟩⟩

/-- a new row -/
theorem Then.alloc {c : Cx} (h : HR c) {nb : Nat} (hn : c.φ nb = none) (us : Array Value) (e : TypeId) (cells : List AV) (hl : cells.length ≤ us.size)
    (hv : ∀ (j : Nat) a, cells[j]? = some a → ∃ u, us[j]? = some u ∧ u.oneCell' = true ∧ VR c a u) (y : Bool) :
    Then c nb [(nb, some (.row y e cells))] (c.put (c.w.alloc (.cells us e)) nb (some c.w.heap.size) [(nb, some (.row y e cells))]) := by
  have hs := h.noRow hn
  generalize hd : c.put (c.w.alloc (.cells us e)) nb (some c.w.heap.size) [(nb, some (.row y e cells))] = d
  have dw : d.w = c.w.alloc (.cells us e) := by rw [← hd]; rfl
  have dφ : ∀ k, d.φ k = if k = nb then some (some c.w.heap.size) else c.φ k := by rw [← hd]; intro k; rfl
  have dσ : ∀ k, d.σ k = if k = nb then some (.row y e cells) else c.σ k := by rw [← hd]; intro k; rfl
  have dB : d.B = c.B := by rw [← hd]; rfl
  have dX : d.X = c.X := by rw [← hd]; rfl
  have dY : d.Y = c.Y := by rw [← hd]; rfl
  have g : Grow c d := by
    refine Still.grow ⟨dY, dX, dB, by rw [dw]; rfl, by rw [dw]; rfl, by rw [dw]; rfl, by rw [dw]; exact size_new _ _, fun b hb _ => by rw [dw]; exact Below.heap_alloc _ _ _ hb, ?_, fun b cs e' f hb => ⟨cs, f, ?_, rfl⟩⟩
    · rintro b ⟨id, o, h1, h2⟩
      rw [dσ] at h1
      rw [dφ] at h2
      by_cases e1 : id = nb
      · rw [if_pos e1] at h2; simp at h2; exact .inr (by omega)
      · rw [if_neg e1] at h1 h2; exact .inl ⟨id, o, h1, h2⟩
    · rw [dw, Below.heap_alloc _ _ _ (by rw [Array.getElem?_eq_some_iff] at hb; exact hb.1)]; exact hb
  have n : Names c d := fun k x hk => by rw [dφ, if_neg (by intro e1; rw [e1, hn] at hk; cases hk)]; exact hk
  refine ⟨g, n, ⟨fun id y' e' cells' h1 => ?_, fun id id' b h1 h2 h3 h4 => ?_, by rw [dB]; exact Nat.le_trans h.base g.size, fun b hb => by rw [dX] at hb; exact Nat.lt_of_lt_of_le (h.xlt b hb) g.size, h.gl.grow g⟩, by rw [← hd]; rfl, fun id hid => ?_⟩
  · rw [dσ] at h1
    by_cases e1 : id = nb
    · rw [if_pos e1] at h1
      simp at h1
      obtain ⟨rfl, rfl, rfl⟩ := h1
      refine .inr ⟨c.w.heap.size, us, by rw [dφ, if_pos e1], by rw [dw]; exact heap_new _ _, ⟨fun _ => by rw [dB]; exact h.base, by rw [dX]; exact fun hx => Nat.lt_irrefl _ (h.xlt _ hx)⟩, hl, fun j a hj => ?_⟩
      obtain ⟨u, h1, h2, h3⟩ := hv j a hj
      exact ⟨u, h1, h2, h3.mono g n⟩
    · rw [if_neg e1] at h1
      rcases h.row id y' e' cells' h1 with ⟨h2, h3⟩ | ⟨b, cs, h2, h3, h4, h5, h6⟩
      · exact .inl ⟨n _ _ h2, h3⟩
      · refine .inr ⟨b, cs, n _ _ h2, ?_, ⟨fun hy => by rw [dB]; exact h4.1 hy, by rw [dX]; exact h4.2⟩, h5, fun j a hj => ?_⟩
        · rw [dw, Below.heap_alloc _ _ _ (by rw [Array.getElem?_eq_some_iff] at h3; exact h3.1)]; exact h3
        · obtain ⟨u, h7, h8, h9⟩ := h6 j a hj
          exact ⟨u, h7, h8, h9.mono g n⟩
  · have old : ∀ k b', d.σ k ≠ none → k ≠ nb → c.φ k = some (some b') → b' < c.w.heap.size := by
      intro k b' hk hkn hb'
      rw [dσ, if_neg hkn] at hk
      obtain ⟨o, ho⟩ := Option.ne_none_iff_exists'.1 hk
      obtain ⟨y1, e1, c1⟩ := o
      rcases h.row k y1 e1 c1 ho with ⟨h5, _⟩ | ⟨b2, cs2, h5, h6, _⟩
      · rw [hb'] at h5; cases h5
      · rw [hb'] at h5; cases h5; rw [Array.getElem?_eq_some_iff] at h6; exact h6.1
    rw [dφ] at h3 h4
    by_cases e1 : id = nb <;> by_cases e2 : id' = nb
    · rw [e1, e2]
    · rw [if_pos e1] at h3; rw [if_neg e2] at h4
      have := old id' b h2 e2 h4
      simp at h3; omega
    · rw [if_neg e1] at h3; rw [if_pos e2] at h4
      have := old id b h1 e1 h3
      simp at h4; omega
    · rw [if_neg e1] at h3; rw [if_neg e2] at h4
      rw [dσ, if_neg e1] at h1
      rw [dσ, if_neg e2] at h2
      exact h.inj id id' b h1 h2 h3 h4
  · rw [dφ] at hid
    by_cases e1 : id = nb
    · exact .inr (by omega)
    · rw [if_neg e1] at hid; exact .inl hid

/-- a cell of another's block that may be written is written -/
theorem Then.wild {c : Cx} (h : HR c) (nb : Nat) {k : WK} {b o : Nat} {x : Value} (hw : c.wok k b (o + 1)) (hx : kindIs k x) : Then c nb [] ⟨c.w.setCells b o [x], c.B, c.φ, c.σ, c.X, c.Y⟩ := by
  generalize hd : (⟨c.w.setCells b o [x], c.B, c.φ, c.σ, c.X, c.Y⟩ : Cx) = d
  have dw : d.w = c.w.setCells b o [x] := by rw [← hd]
  have dφ : d.φ = c.φ := by rw [← hd]
  have dσ : d.σ = c.σ := by rw [← hd]
  have dB : d.B = c.B := by rw [← hd]
  have dX : d.X = c.X := by rw [← hd]
  have dY : d.Y = c.Y := by rw [← hd]
  obtain ⟨hX, hT, hY, hk, sz, ⟨cs, e, hb, hsz, hcs⟩, hle⟩ := hw
  obtain ⟨w1, w2, w3, w4⟩ := setCells_out b [x] c.w o
  have hnb := setCells_heap [x] c.w cs o hb
  have hT' : ∀ j, d.T j ↔ c.T j := fun j => by unfold Cx.T; rw [dσ, dφ]
  have g : Grow c d := by
    refine ⟨dX, dB, by rw [dw, w2], by rw [dw, w3], by rw [dw, w4], by rw [dw, w1]; exact Nat.le_refl _, fun j hj ht hy => ?_, fun j hj => .inl ((hT' j).1 hj), fun j cs' e' f hj => ?_, dY, fun j q sz' h1 h2 h3 h4 h5 => ?_⟩
    · rw [dw]
      refine setCells_other (fun e1 => ?_) _ _ _
      subst e1
      rw [hY] at hy
      rcases hk with rfl | rfl <;> cases hy hX
    · by_cases e1 : j = b
      · subst e1
        rw [hb] at hj
        cases hj
        exact ⟨_, _, by rw [dw]; exact hnb, setA_size _ _ _⟩
      · exact ⟨cs', f, by rw [dw, setCells_other e1]; exact hj, rfl⟩
    · by_cases e1 : j = b
      · subst e1
        obtain ⟨cs', e', h6, h7, h8⟩ := h5
        rw [hb] at h6
        cases h6
        have hq : q = k := by rw [← h3, hY]
        subst hq
        refine ⟨_, _, by rw [dw]; exact hnb, by rw [setA_size]; exact h7, fun i y hi hy => ?_⟩
        rw [setA_get _ _ _ _ (by simp; omega)] at hy
        split at hy
        · rename_i hin
          have : i - o = 0 := by simp at hin; omega
          rw [this] at hy
          simp at hy
          subst hy
          exact hx
        · exact h8 i y hi hy
      · obtain ⟨cs', e', h6, h7⟩ := h5
        exact ⟨cs', e', by rw [dw, setCells_other e1]; exact h6, h7⟩
  have n : Names c d := fun k x hk => by rw [dφ]; exact hk
  refine ⟨g, n, ⟨fun i y' e' cl h1 => ?_, fun i i' b' h1 h2 h3 h4 => ?_, by rw [dB]; exact Nat.le_trans h.base g.size, fun b hb => by rw [dX] at hb; exact Nat.lt_of_lt_of_le (h.xlt b hb) g.size, h.gl.grow g⟩, by rw [← hd]; rfl, fun k hk => by rw [dφ] at hk; exact .inl hk⟩
  · rw [dσ] at h1
    rcases h.row i y' e' cl h1 with ⟨h2, h3⟩ | ⟨b2, cs2, h2, h3, h4, h5, h6⟩
    · exact .inl ⟨n _ _ h2, h3⟩
    · have hne : b2 ≠ b := fun e2 => h4.2 (by rw [e2]; exact hX)
      refine .inr ⟨b2, cs2, n _ _ h2, by rw [dw, setCells_other hne]; exact h3, ⟨fun hy => by rw [dB]; exact h4.1 hy, by rw [dX]; exact h4.2⟩, h5, fun j a hj => ?_⟩
      obtain ⟨u, h7, h8, h9⟩ := h6 j a hj
      exact ⟨u, h7, h8, h9.mono g n⟩
  · rw [dσ] at h1 h2
    rw [dφ] at h3 h4
    exact h.inj i i' b' h1 h2 h3 h4

/-- cells of a row are written: the row's known cells are cells' now -/
theorem Then.store {c : Cx} (h : HR c) (nb : Nat) {id b : Nat} {y : Bool} {e : TypeId} {cells cells' : List AV} {cs : Array Value} (hid : c.σ id = some (.row y e cells)) (hφ : c.φ id = some (some b))
    (hb : c.w.heap[b]? = some (.cells cs e (0, 0))) (o : Nat) (us : List Value) (ho : o + us.length ≤ cs.size) (hl : cells'.length ≤ cs.size)
    (hv : ∀ (j : Nat) a, cells'[j]? = some a → ∃ u, (setA cs o us)[j]? = some u ∧ u.oneCell' = true ∧ VR c a u) :
    Then c nb [(id, some (.row y e cells'))] ⟨c.w.setCells b o us, c.B, c.φ, app c.σ [(id, some (.row y e cells'))], c.X, c.Y⟩ := by
  generalize hd : (⟨c.w.setCells b o us, c.B, c.φ, app c.σ [(id, some (.row y e cells'))], c.X, c.Y⟩ : Cx) = d
  have dw : d.w = c.w.setCells b o us := by rw [← hd]
  have dφ : d.φ = c.φ := by rw [← hd]
  have dσ : ∀ k, d.σ k = if k = id then some (.row y e cells') else c.σ k := by rw [← hd]; intro k; rfl
  have dB : d.B = c.B := by rw [← hd]
  have dX : d.X = c.X := by rw [← hd]
  have dY : d.Y = c.Y := by rw [← hd]
  obtain ⟨w1, w2, w3, w4⟩ := setCells_out b us c.w o
  have hT : c.T b := ⟨id, _, hid, hφ⟩
  have g : Grow c d := by
    refine Still.grow ⟨dY, dX, dB, by rw [dw, w2], by rw [dw, w3], by rw [dw, w4], by rw [dw, w1]; exact Nat.le_refl _, fun k hk ht => by rw [dw]; exact setCells_other (fun e1 => ht (by rw [e1]; exact hT)) _ _ _, ?_, fun k cs' e' f hk => ?_⟩
    · rintro k ⟨i, ob, h1, h2⟩
      rw [dσ] at h1
      rw [dφ] at h2
      by_cases e1 : i = id
      · exact .inl ⟨id, _, hid, by rw [← e1]; exact h2⟩
      · rw [if_neg e1] at h1; exact .inl ⟨i, ob, h1, h2⟩
    · by_cases e1 : k = b
      · subst e1
        rw [hb] at hk
        cases hk
        exact ⟨_, _, by rw [dw]; exact setCells_heap us c.w cs o hb, setA_size _ _ _⟩
      · exact ⟨cs', f, by rw [dw, setCells_other e1]; exact hk, rfl⟩
  have n : Names c d := fun k x hk => by rw [dφ]; exact hk
  have live : ∀ k, d.σ k ≠ none → c.σ k ≠ none := fun k hk => by
    rw [dσ] at hk
    by_cases e1 : k = id
    · rw [e1, hid]; simp
    · rwa [if_neg e1] at hk
  refine ⟨g, n, ⟨fun k y' e' cl h1 => ?_, fun i i' b' h1 h2 h3 h4 => ?_, by rw [dB]; exact Nat.le_trans h.base g.size, fun b hb => by rw [dX] at hb; exact Nat.lt_of_lt_of_le (h.xlt b hb) g.size, h.gl.grow g⟩, by rw [← hd], fun k hk => by rw [dφ] at hk; exact .inl hk⟩
  · rw [dσ] at h1
    by_cases e1 : k = id
    · rw [if_pos e1] at h1
      simp at h1
      obtain ⟨rfl, rfl, rfl⟩ := h1
      rcases h.row id y e cells hid with ⟨h2, _⟩ | ⟨b2, cs2, h2, h3, h4, _⟩
      · rw [hφ] at h2; cases h2
      · rw [hφ] at h2; cases h2
        refine .inr ⟨b, setA cs o us, by rw [e1, dφ]; exact hφ, by rw [dw]; exact setCells_heap us c.w cs o hb, ⟨fun hy => by rw [dB]; exact h4.1 hy, by rw [dX]; exact h4.2⟩, by rw [setA_size]; exact hl, fun j a hj => ?_⟩
        obtain ⟨u, h5, h6, h7⟩ := hv j a hj
        exact ⟨u, h5, h6, h7.mono g n⟩
    · rw [if_neg e1] at h1
      rcases h.row k y' e' cl h1 with ⟨h2, h3⟩ | ⟨b2, cs2, h2, h3, h4, h5, h6⟩
      · exact .inl ⟨n _ _ h2, h3⟩
      · have hne : b2 ≠ b := fun e2 => e1 (h.inj k id b (by rw [h1]; simp) (by rw [hid]; simp) (by rw [← e2]; exact h2) hφ)
        refine .inr ⟨b2, cs2, n _ _ h2, by rw [dw, setCells_other hne]; exact h3, ⟨fun hy => by rw [dB]; exact h4.1 hy, by rw [dX]; exact h4.2⟩, h5, fun j a hj => ?_⟩
        obtain ⟨u, h7, h8, h9⟩ := h6 j a hj
        exact ⟨u, h7, h8, h9.mono g n⟩
  · rw [dφ] at h3 h4
    exact h.inj i i' b' (live i h1) (live i' h2) h3 h4

/-- a row is called by another name; it may have new cells (its block is the same, or a new one, or none) -/
theorem Then.rename {c : Cx} (h : HR c) {nb id b : Nat} (hn : c.φ nb = none) (hne : id ≠ nb) {y : Bool} {e : TypeId} {cells : List AV} (hid : c.σ id = some (.row y e cells)) (hφ : c.φ id = some (some b)) :
    Then c nb [(id, none), (nb, some (.row y e cells))] (c.put c.w nb (some b) [(id, none), (nb, some (.row y e cells))]) := by
  generalize hd : c.put c.w nb (some b) [(id, none), (nb, some (.row y e cells))] = d
  have dw : d.w = c.w := by rw [← hd]; rfl
  have dφ : ∀ k, d.φ k = if k = nb then some (some b) else c.φ k := by rw [← hd]; intro k; rfl
  have dσ : ∀ k, d.σ k = if k = nb then some (.row y e cells) else if k = id then none else c.σ k := by rw [← hd]; intro k; rfl
  have dB : d.B = c.B := by rw [← hd]; rfl
  have dX : d.X = c.X := by rw [← hd]; rfl
  have dY : d.Y = c.Y := by rw [← hd]; rfl
  have g : Grow c d := by
    refine Still.grow ⟨dY, dX, dB, by rw [dw], by rw [dw], by rw [dw], by rw [dw]; exact Nat.le_refl _, fun k hk ht => by rw [dw], ?_, fun k cs' e' f hk => ⟨cs', f, by rw [dw]; exact hk, rfl⟩⟩
    rintro k ⟨i, ob, h1, h2⟩
    rw [dσ] at h1
    rw [dφ] at h2
    by_cases e1 : i = nb
    · rw [if_pos e1] at h2; cases h2; exact .inl ⟨id, _, hid, hφ⟩
    · rw [if_neg e1] at h1 h2
      by_cases e2 : i = id
      · rw [if_pos e2] at h1; cases h1
      · rw [if_neg e2] at h1; exact .inl ⟨i, ob, h1, h2⟩
  have n : Names c d := fun k x hk => by rw [dφ, if_neg (by intro e1; rw [e1, hn] at hk; cases hk)]; exact hk
  have hnb := h.noRow hn
  refine ⟨g, n, ⟨fun k y' e' cl h1 => ?_, fun i i' b' h1 h2 h3 h4 => ?_, by rw [dB]; exact Nat.le_trans h.base g.size, fun b hb => by rw [dX] at hb; exact Nat.lt_of_lt_of_le (h.xlt b hb) g.size, h.gl.grow g⟩, by rw [← hd]; rfl, fun k hk => ?_⟩
  · rw [dσ] at h1
    by_cases e1 : k = nb
    · rw [if_pos e1] at h1
      simp at h1
      obtain ⟨rfl, rfl, rfl⟩ := h1
      rcases h.row id y e cells hid with ⟨h2, _⟩ | ⟨b2, cs2, h2, h3, h4, h5, h6⟩
      · rw [hφ] at h2; cases h2
      · rw [hφ] at h2; cases h2
        refine .inr ⟨b, cs2, by rw [dφ, if_pos e1], by rw [dw]; exact h3, ⟨fun hy => by rw [dB]; exact h4.1 hy, by rw [dX]; exact h4.2⟩, h5, fun j a hj => ?_⟩
        obtain ⟨u, h7, h8, h9⟩ := h6 j a hj
        exact ⟨u, h7, h8, h9.mono g n⟩
    · rw [if_neg e1] at h1
      split at h1
      · cases h1
      rcases h.row k y' e' cl h1 with ⟨h2, h3⟩ | ⟨b2, cs2, h2, h3, h4, h5, h6⟩
      · exact .inl ⟨n _ _ h2, h3⟩
      · refine .inr ⟨b2, cs2, n _ _ h2, by rw [dw]; exact h3, ⟨fun hy => by rw [dB]; exact h4.1 hy, by rw [dX]; exact h4.2⟩, h5, fun j a hj => ?_⟩
        obtain ⟨u, h7, h8, h9⟩ := h6 j a hj
        exact ⟨u, h7, h8, h9.mono g n⟩
  · have bk : ∀ k, d.σ k ≠ none → ∃ k', c.σ k' ≠ none ∧ c.φ k' = d.φ k ∧ (k = nb ∧ k' = id ∨ k ≠ nb ∧ k' = k ∧ k ≠ id) := by
      intro k hk
      by_cases e1 : k = nb
      · exact ⟨id, by rw [hid]; simp, by rw [dφ, if_pos e1, hφ], .inl ⟨e1, rfl⟩⟩
      · rw [dσ, if_neg e1] at hk
        by_cases e2 : k = id
        · rw [if_pos e2] at hk; exact absurd rfl hk
        · rw [if_neg e2] at hk; exact ⟨k, hk, by rw [dφ, if_neg e1], .inr ⟨e1, rfl, e2⟩⟩
    obtain ⟨k1, a1, a2, a3⟩ := bk i h1
    obtain ⟨k2, b1, b2, b3⟩ := bk i' h2
    have := h.inj k1 k2 b' a1 b1 (a2.trans h3) (b2.trans h4)
    omega
  · rw [dφ] at hk
    by_cases e1 : k = nb
    · exact .inr (by omega)
    · rw [if_neg e1] at hk; exact .inl hk

/-- one behind the other -/
theorem app_append (σ : Heap) (W W' : List (Nat × Option AObj)) : app (app σ W) W' = app σ (W ++ W') := by
  induction W generalizing σ with
  | nil => rfl
  | cons x W ih => exact ih _
theorem Then.trans {c d f : Cx} {nb : Nat} {W W' : List (Nat × Option AObj)} (h : Then c nb W d) (k : Then d nb W' f) : Then c nb (W ++ W') f :=
  ⟨h.grow.trans k.grow, h.names.trans k.names, k.hr, by rw [k.σ, h.σ, app_append], fun id hid => by
    rcases k.fresh id hid with h1 | h1
    · exact h.fresh id h1
    · exact .inr h1⟩
theorem Then.eqW {c d : Cx} {nb : Nat} {W W' : List (Nat × Option AObj)} (h : Then c nb W d) (e : app c.σ W = app c.σ W') : Then c nb W' d := ⟨h.grow, h.names, h.hr, by rw [h.σ, e], h.fresh⟩
/-- an empty row without a block -/
theorem Then.virtual {c : Cx} (h : HR c) {nb : Nat} (hn : c.φ nb = none) (y : Bool) (e : TypeId) : Then c nb [(nb, some (.row y e []))] (c.put c.w nb none [(nb, some (.row y e []))]) := by
  have hs := h.noRow hn
  generalize hd : c.put c.w nb none [(nb, some (.row y e []))] = d
  have dw : d.w = c.w := by rw [← hd]; rfl
  have dφ : ∀ k, d.φ k = if k = nb then some none else c.φ k := by rw [← hd]; intro k; rfl
  have dσ : ∀ k, d.σ k = if k = nb then some (.row y e []) else c.σ k := by rw [← hd]; intro k; rfl
  have dB : d.B = c.B := by rw [← hd]; rfl
  have dX : d.X = c.X := by rw [← hd]; rfl
  have dY : d.Y = c.Y := by rw [← hd]; rfl
  have g : Grow c d := by
    refine Still.grow ⟨dY, dX, dB, by rw [dw], by rw [dw], by rw [dw], by rw [dw]; exact Nat.le_refl _, fun k hk ht => by rw [dw], ?_, fun k cs' e' f hk => ⟨cs', f, by rw [dw]; exact hk, rfl⟩⟩
    rintro k ⟨i, ob, h1, h2⟩
    rw [dσ] at h1
    rw [dφ] at h2
    by_cases e1 : i = nb
    · rw [if_pos e1] at h2; cases h2
    · rw [if_neg e1] at h1 h2; exact .inl ⟨i, ob, h1, h2⟩
  have n : Names c d := fun k x hk => by rw [dφ, if_neg (by intro e1; rw [e1, hn] at hk; cases hk)]; exact hk
  refine ⟨g, n, ⟨fun k y' e' cl h1 => ?_, fun i i' b' h1 h2 h3 h4 => ?_, by rw [dB]; exact Nat.le_trans h.base g.size, fun b hb => by rw [dX] at hb; exact Nat.lt_of_lt_of_le (h.xlt b hb) g.size, h.gl.grow g⟩, by rw [← hd]; rfl, fun k hk => ?_⟩
  · rw [dσ] at h1
    by_cases e1 : k = nb
    · rw [if_pos e1] at h1
      simp at h1
      obtain ⟨rfl, rfl, rfl⟩ := h1
      exact .inl ⟨by rw [dφ, if_pos e1], rfl⟩
    · rw [if_neg e1] at h1
      rcases h.row k y' e' cl h1 with ⟨h2, h3⟩ | ⟨b2, cs2, h2, h3, h4, h5, h6⟩
      · exact .inl ⟨n _ _ h2, h3⟩
      · refine .inr ⟨b2, cs2, n _ _ h2, by rw [dw]; exact h3, ⟨fun hy => by rw [dB]; exact h4.1 hy, by rw [dX]; exact h4.2⟩, h5, fun j a hj => ?_⟩
        obtain ⟨u, h7, h8, h9⟩ := h6 j a hj
        exact ⟨u, h7, h8, h9.mono g n⟩
  · rw [dφ] at h3 h4
    by_cases e1 : i = nb
    · rw [if_pos e1] at h3; cases h3
    · by_cases e2 : i' = nb
      · rw [if_pos e2] at h4; cases h4
      · rw [if_neg e1] at h3; rw [if_neg e2] at h4
        rw [dσ, if_neg e1] at h1
        rw [dσ, if_neg e2] at h2
        exact h.inj i i' b' h1 h2 h3 h4
  · rw [dφ] at hk
    by_cases e1 : k = nb
    · exact .inr (by omega)
    · rw [if_neg e1] at hk; exact .inl hk
/-- a row is let go -/
theorem Then.drop {c : Cx} (h : HR c) (nb id : Nat) : Then c nb [(id, none)] ⟨c.w, c.B, c.φ, app c.σ [(id, none)], c.X, c.Y⟩ := by
  generalize hd : (⟨c.w, c.B, c.φ, app c.σ [(id, none)], c.X, c.Y⟩ : Cx) = d
  have dw : d.w = c.w := by rw [← hd]
  have dφ : d.φ = c.φ := by rw [← hd]
  have dσ : ∀ k, d.σ k = if k = id then none else c.σ k := by rw [← hd]; intro k; rfl
  have dB : d.B = c.B := by rw [← hd]
  have dX : d.X = c.X := by rw [← hd]
  have dY : d.Y = c.Y := by rw [← hd]
  have live : ∀ k o, d.σ k = some o → c.σ k = some o := fun k o hk => by
    rw [dσ] at hk
    split at hk
    · cases hk
    · exact hk
  have g : Grow c d := by
    refine Still.grow ⟨dY, dX, dB, by rw [dw], by rw [dw], by rw [dw], by rw [dw]; exact Nat.le_refl _, fun k hk ht => by rw [dw], ?_, fun k cs' e' f hk => ⟨cs', f, by rw [dw]; exact hk, rfl⟩⟩
    rintro k ⟨i, ob, h1, h2⟩
    exact .inl ⟨i, ob, live i ob h1, by rw [← dφ]; exact h2⟩
  have n : Names c d := fun k x hk => by rw [dφ]; exact hk
  refine ⟨g, n, ⟨fun k y' e' cl h1 => ?_, fun i i' b' h1 h2 h3 h4 => ?_, by rw [dB]; exact Nat.le_trans h.base g.size, fun b hb => by rw [dX] at hb; exact Nat.lt_of_lt_of_le (h.xlt b hb) g.size, h.gl.grow g⟩, by rw [← hd], fun k hk => by rw [dφ] at hk; exact .inl hk⟩
  · rcases h.row k y' e' cl (live k _ h1) with ⟨h2, h3⟩ | ⟨b2, cs2, h2, h3, h4, h5, h6⟩
    · exact .inl ⟨n _ _ h2, h3⟩
    · refine .inr ⟨b2, cs2, n _ _ h2, by rw [dw]; exact h3, ⟨fun hy => by rw [dB]; exact h4.1 hy, by rw [dX]; exact h4.2⟩, h5, fun j a hj => ?_⟩
      obtain ⟨u, h7, h8, h9⟩ := h6 j a hj
      exact ⟨u, h7, h8, h9.mono g n⟩
  · rw [dφ] at h3 h4
    obtain ⟨o1, ho1⟩ := Option.ne_none_iff_exists'.1 h1
    obtain ⟨o2, ho2⟩ := Option.ne_none_iff_exists'.1 h2
    exact h.inj i i' b' (by rw [live i _ ho1]; simp) (by rw [live i' _ ho2]; simp) h3 h4
end Go.Proofs.YtdenddhdeloceaaGreatDoor
namespace Go.Proofs.YtdenddhdeloceaaGreatDoor
open Go.RowKit

/-- The operations that are known, with what their types say written out. -/
inductive AO where
  | mv (x : Operand)
  | pick (c a b : Operand)
  | new (e : Nat) (z : List Value)
  | box (e : Nat) (x : Operand)
  | build (z : List Value) (ps : List (Nat × Nat × Operand))
  | bslice (e sz n : Nat) (z : List Value) (ps : List (Nat × Nat × Operand))
  | load (ag : Bool) (n : Nat) (a : Operand)
  | store (n : Nat) (a x : Operand)
  | foff (k : Nat) (a : Operand)
  | idx (sz : Nat) (x i : Operand)
  | fld (ag : Bool) (off n : Nat) (x : Operand)
  | bin (o : BinOp) (x y : Operand)
  | beq (neg : Bool) (x y : Operand)
  | eqs (neg : Bool) (ks : List Bool) (x y : Operand)
  | isnil (neg : Bool) (z : Value) (x : Operand)
  | un (o : UnOp) (x : Operand)
  | conv (k : IntKind) (x : Operand)
  | len (str : Bool) (x : Operand)
  | append (e sz bytes : Nat) (x y : Operand)
  | call (f : Nat) (args : List Operand)
  | callv (g : Operand) (args : List Operand)
  | ext (i : Nat) (x : Operand)
  | slice (sz : Nat) (x : Operand) (lo hi : Option Operand)
  | mksl (e sz bytes : Nat) (z : List Value) (n c : Operand)
  | clo (f : Nat) (caps : List Operand)
  | nilc (x : Operand)
  | sconv (x : Operand)
  | b2s (x : Operand)
  | mm (mx : Bool) (x y : Operand)
  | mkif (t : Nat) (x : Operand)
  | die
  | aidx (sz n : Nat) (x i : Operand)
  | cap (x : Operand)
  | appz (e sz bytes : Nat) (z : List Value) (x n : Operand)
  | copy (x y : Operand)
  | slice0 (e sz : Nat) (x : Operand)
  | sidx (x i : Operand)

/-- arithmetic and comparisons of whole numbers and strings -/
def intVal (op : BinOp) (k : IntKind) (a b : Int) : Option Value :=
  match op with
  | .add => some (.int k (k.wrap (a + b)))
  | .sub => some (.int k (k.wrap (a - b)))
  | .mul => some (.int k (k.wrap (a * b)))
  | .quo => if b = 0 then none else some (.int k (k.wrap (a.tdiv b)))
  | .rem => if b = 0 then none else some (.int k (a.tmod b))
  | .and => some (.int k (k.wrap (BitVec.ofInt k.bits a &&& BitVec.ofInt k.bits b).toNat))
  | .or => some (.int k (k.wrap (BitVec.ofInt k.bits a ||| BitVec.ofInt k.bits b).toNat))
  | .xor => some (.int k (k.wrap (BitVec.ofInt k.bits a ^^^ BitVec.ofInt k.bits b).toNat))
  | .eql => some (.bool (decide (a = b)))
  | .neq => some (.bool (!decide (a = b)))
  | .lss => some (.bool (decide (a < b)))
  | .leq => some (.bool (decide (a ≤ b)))
  | .gtr => some (.bool (decide (b < a)))
  | .geq => some (.bool (decide (b ≤ a)))
  | _ => none
def shVal (op : BinOp) (k : IntKind) (a b : Int) : Option Value :=
  match op with
  | .shl => if b < 0 then none else some (.int k (k.wrap (a * 2 ^ (min b.toNat k.bits))))
  | .shr => if b < 0 then none else some (.int k (a.fdiv (2 ^ (min b.toNat k.bits))))
  | _ => none
def isSh : BinOp → Bool
  | .shl | .shr => true
  | _ => false
def strOp (op : BinOp) (a b : ByteArray) : Option Value :=
  match op with
  | .add => if a.size + b.size ≤ 9223372036854775807 then some (.string (a ++ b)) else none
  | .eql => some (.bool (decide (a = b)))
  | .neq => some (.bool (!decide (a = b)))
  | .lss => some (.bool (Op.bytesLess a.toList b.toList))
  | .geq => some (.bool (!Op.bytesLess a.toList b.toList))
  | _ => none
def binVal (op : BinOp) : Value → Value → Option Value
  | .int k a, .int k' b => if isSh op = true then shVal op k a b else if k = k' then intVal op k a b else none
  | .string a, .string b => strOp op a b
  | _, _ => none
def unVal (op : UnOp) : Value → Option Value
  | .bool b => match op with | .not => some (.bool (!b)) | _ => none
  | .int k a => match op with | .neg => some (.int k (k.wrap (0 - a))) | .xor => some (.int k (k.wrap (BitVec.ofInt k.bits (if k.signed then -1 else k.max) ^^^ BitVec.ofInt k.bits a).toNat)) | _ => none
  | _ => none
def ldA (ag : Bool) (n : Nat) (cells : List AV) (off : Nat) : AM :=
  if ag then (match getN cells off n with | some l => .ret (.agg l) [] | none => .fail) else (match cells[off]? with | some x => .ret x [] | none => .fail)
/-- what is appended: how many, and the cells -/
def srcA (sz : Nat) (a : AV) (k : Nat → List AV → AM) : AM :=
  match a with
  | .fs _ cs m => if cs.length = m * sz then k m cs else .fail
  | .os id off m sz' => .rd id fun | .row _ _ cells => if sz' = sz ∧ ((cells.drop off).take (m * sz)).length = m * sz then k m ((cells.drop off).take (m * sz)) else .fail
  | .v (.slice _ 0 _) => k 0 []
  | _ => .fail
def appA (nb e sz bytes : Nat) (a : AV) (m : Nat) (l : List AV) : AM :=
  match a with
  | .v (.slice none 0 0) => if m * bytes ≤ 140737488355328 then .ret (.os nb 0 m sz) [(nb, some (.row true e l))] else .fail
  | .os id 0 n sz' => .rd id fun | .row y e' cells => if e' = e ∧ sz' = sz ∧ cells.length = n * sz ∧ (n + m) * bytes ≤ 140737488355328 then .ret (.os nb 0 (n + m) sz) [(id, none), (nb, some (.row y e (cells ++ l)))] else .fail
  | _ => .fail
/-- bounds of a slicing: from, to -/
def lohi (n : Nat) (lo hi : Option AV) : Option (Nat × Nat) :=
  match lo, hi with
  | none, none => some (0, n)
  | some (.v (.int _ l)), none => if 0 ≤ l ∧ l ≤ n then some (l.toNat, n) else none
  | none, some (.v (.int _ h)) => if 0 ≤ h ∧ h ≤ n then some (0, h.toNat) else none
  | some (.v (.int _ l)), some (.v (.int _ h)) => if 0 ≤ l ∧ l ≤ h ∧ h ≤ n then some (l.toNat, h.toNat) else none
  | _, _ => none
def loadA (ag : Bool) (n : Nat) (a : AV) : AM :=
  match a with
  | .op id off => .rd id fun | .row _ _ cells => ldA ag n cells off
  | .fp _ cells off => ldA ag n cells off
  | .wp k => if ag = false then .ret (.wv k) [] else .fail
  | _ => .fail
def storeA (n : Nat) (a x : AV) : AM :=
  match a with
  | .op id off => match cellsOf x with
    | some l => .rd id fun | .row y e cells => if l.length = n ∧ off + n ≤ cells.length then .ret .any [(id, some (.row y e (setN cells off l)))] else .fail
    | none => .fail
  | .wp k => match x with
    | .wv k' => if k' = k ∧ n = 1 then .ret .any [] else .fail
    | _ => .fail
  | _ => .fail
def foffA (k : Nat) (a : AV) : AM :=
  match a with
  | .op id off => .ret (.op id (off + k)) []
  | .fp fr cs off => .ret (.fp fr cs (off + k)) []
  | _ => .fail
def idxA (sz : Nat) (a x : AV) : AM :=
  match x with
  | .v (.int _ i) => match a with
    | .fs fr cs n => if 0 ≤ i ∧ i < n then .ret (.fp fr cs (i.toNat * sz)) [] else .fail
    | .os id off n _ => if 0 ≤ i ∧ i < n then .ret (.op id (off + i.toNat * sz)) [] else .fail
    | .ws k n => if sz = 1 ∧ 0 ≤ i ∧ i < n then .ret (.wp k) [] else .fail
    | _ => .fail
  | _ => .fail
def fldA (ag : Bool) (off n : Nat) (a : AV) : AM :=
  match a with
  | .agg l => ldA ag n l off
  | _ => .fail
def isXor : BinOp → Bool
  | .xor => true
  | _ => false
def isNot : UnOp → Bool
  | .not => true
  | _ => false
def binA (op : BinOp) (a b : AV) : AM :=
  match a with
  | .wv .u8 => match b with
    | .v (.int .u8 _) => if isXor op = true then .ret (.wv .u8) [] else .fail
    | _ => .fail
  | .v p => match b with
    | .v q => match binVal op p q with | some r => .ret (.v r) [] | none => .fail
    | _ => .fail
  | _ => .fail
def beqA (neg : Bool) (a b : AV) : AM :=
  match a with
  | .v (.bool p) => match b with
    | .v (.bool q) => .ret (.v (.bool (decide (p = q) != neg))) []
    | _ => .fail
  | _ => .fail
/-- two structs of numbers (true) and bools (false): are they one? -/
def eqL : List Bool → List AV → List AV → Option Bool
  | [], [], [] => some true
  | true :: ks, .v (.int k x) :: r, .v (.int k' y) :: q => if k = k' then (match eqL ks r q with | some t => some (decide (x = y) && t) | none => none) else none
  | false :: ks, .v (.bool x) :: r, .v (.bool y) :: q => match eqL ks r q with | some t => some (decide (x = y) && t) | none => none
  | _, _, _ => none
def eqsA (neg : Bool) (ks : List Bool) (a b : AV) : AM :=
  match a with
  | .agg l => match b with
    | .agg q => match eqL ks l q with | some t => .ret (.v (.bool (t != neg))) [] | none => .fail
    | _ => .fail
  | _ => .fail
def isnilA (neg : Bool) (z : Value) (a : AV) : AM :=
  match z, a with
  | .slice none 0 0, .v (.slice none _ _) | .pointer none, .v (.pointer none) => .ret (.v (.bool (!neg))) []
  | .slice none 0 0, .v (.slice (some _) _ _) => .ret (.v (.bool neg)) []
  | .slice none 0 0, .fs _ _ n | .slice none 0 0, .os _ _ n _ => if n = 0 then .fail else .ret (.v (.bool neg)) []
  | .pointer none, .op _ _ | .pointer none, .fp _ _ _ => .ret (.v (.bool neg)) []
  | .nilIface, .v .nilIface => .ret (.v (.bool (!neg))) []
  | .nilIface, .ifc _ _ => .ret (.v (.bool neg)) []
  | _, _ => .fail
def unA (op : UnOp) (a : AV) : AM :=
  match a with
  | .v a => match unVal op a with | some u => .ret (.v u) [] | none => .fail
  | .wv .bl => if isNot op = true then .ret (.wv .bl) [] else .fail
  | _ => .fail
def convA (k : IntKind) (a : AV) : AM :=
  match a with
  | .v (.int _ n) => .ret (.v (.int k (k.wrap n))) []
  | _ => .fail
def lenA (a : AV) : AM :=
  match a with
  | .fs _ _ n | .os _ _ n _ | .v (.slice _ n _) | .ws _ n => .ret (.v (.int .i64 n)) []
  | _ => .fail
def slenA (a : AV) : AM :=
  match a with
  | .v (.string s) => .ret (.v (.int .i64 s.size)) []
  | _ => .fail
def extA (i : Nat) (a : AV) : AM :=
  match a with
  | .tup l => (match l[i]? with | some a => .ret a [] | none => .fail)
  | _ => .fail
def sliceA (sz : Nat) (a : AV) (lo hi : Option AV) : AM :=
  match a with
  | .fs fr cs n => match lohi n lo hi with | some (l, h) => .ret (.fs fr ((cs.drop (l * sz)).take ((h - l) * sz)) (h - l)) [] | none => .fail
  | .os id off n sz' => match lohi n lo hi with | some (l, h) => if sz' = sz then .ret (.os id (off + l * sz) (h - l) sz) [] else .fail | none => .fail
  | .v (.slice none 0 0) => match lohi 0 lo hi with | some (_, _) => .ret (.v (.slice none 0 0)) [] | none => .fail
  | _ => .fail
def mkslA (nb e sz bytes : Nat) (z : List Value) (a x : AV) : AM :=
  match a with
  | .v (.int _ i) => match x with
    | .v (.int _ j) => if 0 ≤ i ∧ i ≤ j ∧ bytes * j ≤ 281474976710656 ∧ j ≤ 9223372036854775807 then .ret (.os nb 0 i.toNat sz) [(nb, some (.row true e (List.replicate i.toNat (z.map .v)).flatten))] else .fail
    | _ => .fail
  | _ => .fail
def nilA (a : AV) : AM :=
  match a with
  | .op id off => .ret (.op id off) []
  | .fp fr cs off => .ret (.fp fr cs off) []
  | _ => .fail
def pickA (t a b : AV) : AM :=
  match t with
  | .v (.bool t) => .ret (if t = true then a else b) []
  | _ => .fail
def boxA (nb e : Nat) (a : AV) : AM :=
  match cellsOf a with
  | some l => .ret (.op nb 0) [(nb, some (.row true e l))]
  | none => .fail
/-- octets that become a string's own -/
def sconvA (a : AV) : AM :=
  match a with
  | .os id off n sz => .rd id fun | .row y _ cells => if (off = 0 ∧ sz = 1) ∧ 0 < n ∧ cells.length = n then .ret (.fs y cells n) [(id, none)] else .fail
  | _ => .fail
def bytesOf : List AV → Option (List Int)
  | [] => some []
  | .v (.int .u8 x) :: r => match bytesOf r with | some l => some (x :: l) | none => none
  | _ => none
def strOf (l : List Int) : ByteArray := l.foldl (fun r n => r.push (UInt8.ofNat n.toNat)) .empty
def b2sOf (cs : List AV) : AM :=
  match bytesOf cs with
  | some l => .ret (.v (.string (strOf l))) []
  | none => .fail
def b2sA (a : AV) : AM :=
  match a with
  | .v (.slice none _ _) => .ret (.v (.string .empty)) []
  | .fs _ cs n => if cs.length = n then b2sOf cs else .fail
  | .os id off n sz => .rd id fun | .row _ _ cells => if sz = 1 ∧ ((cells.drop off).take n).length = n then b2sOf ((cells.drop off).take n) else .fail
  | _ => .fail
def mmA (mx : Bool) (a b : AV) : AM :=
  match a with
  | .v (.int k x) => match b with
    | .v (.int _ y) => .ret (.v (.int k (if mx = true then (if x < y then y else x) else (if y < x then y else x)))) []
    | _ => .fail
  | _ => .fail
/-- a[i] of an array that lies in memory -/
def aidxA (sz n : Nat) (a x : AV) : AM :=
  match x with
  | .v (.int _ i) => match a with
    | .fp fr cs off => if 0 ≤ i ∧ i < n then .ret (.fp fr cs (off + i.toNat * sz)) [] else .fail
    | .op id off => if 0 ≤ i ∧ i < n then .ret (.op id (off + i.toNat * sz)) [] else .fail
    | _ => .fail
  | _ => .fail
def capA (a : AV) : AM :=
  match a with
  | .v (.slice _ _ k) => .ret (.v (.int .i64 k)) []
  | _ => .fail
/-- nil with n zeros behind it -/
def appzA (nb e sz bytes : Nat) (z : List Value) (a x : AV) : AM :=
  match a with
  | .v (.slice none 0 0) => match x with
    | .v (.int .i64 i) => if 0 < i ∧ i.toNat * bytes ≤ 140737488355328 then .ret (.os nb 0 i.toNat sz) [(nb, some (.row true e (List.replicate i.toNat (z.map .v)).flatten))] else .fail
    | _ => .fail
  | .os id 0 n sz' => match x with
    | .v (.int .i64 i) => .rd id fun | .row y e' cells => if (e' = e ∧ sz' = sz ∧ cells.length = n * sz) ∧ 0 < i ∧ (n + i.toNat) * bytes ≤ 140737488355328 then .ret (.os nb 0 (n + i.toNat) sz) [(id, none), (nb, some (.row y e (cells ++ (List.replicate i.toNat (z.map .v)).flatten)))] else .fail
    | _ => .fail
  | _ => .fail
/-- octets are copied into a held row -/
def copyA (a : AV) (m : Nat) (l : List AV) : AM :=
  match a with
  | .os id off n sz => .rd id fun | .row y e cells => if (sz = 1 ∧ 0 < n) ∧ off + n ≤ cells.length then .ret (.v (.int .i64 (Nat.min m n))) [(id, some (.row y e (setN cells off (l.take (Nat.min m n)))))] else .fail
  | _ => .fail
/-- x[:0:0] -/
def slice0A (nb e sz : Nat) (a : AV) : AM :=
  match a with
  | .fs _ _ _ | .os _ _ _ _ => .ret (.os nb 0 0 sz) [(nb, some (.row true e []))]
  | .v (.slice none 0 0) => .ret (.v (.slice none 0 0)) []
  | _ => .fail
def sidxA (a x : AV) : AM :=
  match a with
  | .v (.string s) => match x with
    | .v (.int _ i) => if 0 ≤ i then (match s[i.toNat]? with | some b => .ret (.v (.int .u8 b.toNat)) [] | none => .fail) else .fail
    | _ => .fail
  | _ => .fail
def eff (ρ : Operand → AV) (nb : Nat) : AO → AM
  | .mv x => .ret (ρ x) []
  | .pick c a b => pickA (ρ c) (ρ a) (ρ b)
  | .new e z => .ret (.op nb 0) [(nb, some (.row true e (z.map .v)))]
  | .box e x => boxA nb e (ρ x)
  | .build z ps => match fillA ρ (z.map .v) ps with | some l => .ret (.agg l) [] | none => .fail
  | .bslice e sz n z ps => match fillA ρ (z.map .v) ps with | some l => .ret (.os nb 0 n sz) [(nb, some (.row true e l))] | none => .fail
  | .load ag n a => loadA ag n (ρ a)
  | .store n a x => storeA n (ρ a) (ρ x)
  | .foff k a => foffA k (ρ a)
  | .idx sz x i => idxA sz (ρ x) (ρ i)
  | .fld ag off n x => fldA ag off n (ρ x)
  | .bin o x y => binA o (ρ x) (ρ y)
  | .beq neg x y => beqA neg (ρ x) (ρ y)
  | .eqs neg ks x y => eqsA neg ks (ρ x) (ρ y)
  | .isnil neg z x => isnilA neg z (ρ x)
  | .un o x => unA o (ρ x)
  | .conv k x => convA k (ρ x)
  | .len str x => if str then slenA (ρ x) else lenA (ρ x)
  | .append e sz bytes x y => srcA sz (ρ y) (appA nb e sz bytes (ρ x))
  | .call _ _ | .callv _ _ => .fail
  | .ext i x => extA i (ρ x)
  | .slice sz x lo hi => sliceA sz (ρ x) (lo.map ρ) (hi.map ρ)
  | .mksl e sz bytes z n c => mkslA nb e sz bytes z (ρ n) (ρ c)
  | .clo f caps => .ret (.fn f (caps.map ρ)) []
  | .nilc x => nilA (ρ x)
  | .sconv x => sconvA (ρ x)
  | .b2s x => b2sA (ρ x)
  | .mm mx x y => mmA mx (ρ x) (ρ y)
  | .mkif t x => .ret (.ifc t (ρ x)) []
  | .die => .fail
  | .aidx sz n x i => aidxA sz n (ρ x) (ρ i)
  | .cap x => capA (ρ x)
  | .appz e sz bytes z x n => appzA nb e sz bytes z (ρ x) (ρ n)
  | .copy x y => srcA 1 (ρ y) (copyA (ρ x))
  | .slice0 e sz x => slice0A nb e sz (ρ x)
  | .sidx x i => sidxA (ρ x) (ρ i)

def isNilC : TypeDesc → Operand → Option Value
  | .slice _, .const (.slice none 0 0) => some (.slice none 0 0)
  | .pointer _, .const (.pointer none) => some (.pointer none)
  | .interface _, .const .nilIface => some .nilIface
  | _, _ => none
def placesOf (P : Program) : List Field → Option (List (Nat × Nat))
  | [] => some []
  | f :: r => match P.info? f.type with
    | some i => match placesOf P r with
      | some l => some ((f.offset, i.size) :: l)
      | none => none
    | none => none
def partsOf (l : List (Nat × Nat)) : List (Nat × Operand) → Option (List (Nat × Nat × Operand))
  | [] => some []
  | (i, x) :: r => match l[i]? with
    | some (o, n) => match partsOf l r with
      | some q => some ((o, n, x) :: q)
      | none => none
    | none => none
def compMM (mx : Bool) : List Operand → Option AO
  | [x, y] => some (.mm mx x y)
  | _ => none
def compBi (b : Builtin) (l : List Operand) : Option AO :=
  match b with
  | .min => compMM false l
  | .max => compMM true l
  | _ => none
/-- a struct of numbers and bools alone -/
def fldKinds (P : Program) : List Field → Nat → Option (List Bool)
  | [], _ => some []
  | f :: r, k => if f.name ≠ "_" ∧ f.offset = k then (match P.underlying f.type with
    | some (.int _) => (match fldKinds P r (k + 1) with | some l => some (true :: l) | none => none)
    | some .bool => (match fldKinds P r (k + 1) with | some l => some (false :: l) | none => none)
    | _ => none) else none
def compEqs (P : Program) (neg : Bool) (t : TypeId) (x y : Operand) : Option AO :=
  if P.stoodInHeld t = false ∧ P.eqGuardType P.depth t = false then (match P.underlying t with
    | some (.struct fs) => (match fldKinds P fs.toList 0 with | some ks => some (.eqs neg ks x y) | none => none)
    | _ => none) else none
def compEq (P : Program) (op : BinOp) (t : TypeId) (x y : Operand) : Option AO :=
  match op with
  | .eql => compEqs P false t x y
  | .neq => compEqs P true t x y
  | _ => none
/-- What an operation is, its types looked up. -/
def compOp (P : Program) (o : Oper) : Option AO :=
  match o.op with
  | .move x | .assign x => some (.mv x)
  | .pick c a b => some (.pick c a b)
  | .alloc t => match P.info? t with
    | some i => match i.zero with
      | some z => if z.cells.toList.all (·.oneCell') then some (.new t z.cells.toList) else none
      | none => none
    | none => none
  | .box t x => some (.box t x)
  | .build t ps => match P.info? t with
    | some i => match i.zero with
      | some z => match P.underlying t with
        | some (.struct fs) => match placesOf P fs.toList with
          | some l => match partsOf l ps.toList with
            | some q => if z.cells.toList.all (·.oneCell') then some (.build z.cells.toList q) else none
            | none => none
          | none => none
        | _ => none
      | none => none
    | none => none
  | .load t a => match P.info? t with
    | some i => match P.underlying t with
      | some d => some (.load d.isRow i.size a)
      | none => none
    | none => none
  | .store t a x => match P.info? t with
    | some i => some (.store i.size a x)
    | none => none
  | .fieldAddr s a k => match P.underlying s with
    | some (.struct fs) => match fs[k]? with
      | some f => match P.info? f.type with
        | some i => if i.size = 0 then none else some (.foff f.offset a)
        | none => none
      | none => none
    | _ => none
  | .field s x k => match P.underlying s with
    | some (.struct fs) => match fs[k]? with
      | some f => match P.info? f.type with
        | some i => match P.underlying f.type with
          | some d => some (.fld d.isRow f.offset i.size x)
          | none => none
        | none => none
      | none => none
    | _ => none
  | .indexAddr t x i => match P.underlying t with
    | some (.slice e) => match P.info? e with
      | some j => some (.idx j.size x i)
      | none => none
    | some (.array n e) => match P.info? e with
      | some j => some (.aidx j.size n x i)
      | none => none
    | _ => none
  | .index t x i => match P.underlying t with
    | some .string => some (.sidx x i)
    | _ => none
  | .makeInterface t x => match P.underlying t with
    | some (.interface _) => none
    | some _ => some (.mkif t x)
    | none => none
  | .panic _ => some .die
  | .binOp op t x y _ => match P.underlying t with
    | some (.int _) | some .string => some (.bin op x y)
    | some .bool => match op with
      | .eql => some (.beq false x y)
      | .neq => some (.beq true x y)
      | _ => none
    | some (.struct _) => compEq P op t x y
    | some d => match isNilC d y with
      | some z => match op with
        | .eql => some (.isnil false z x)
        | .neq => some (.isnil true z x)
        | _ => none
      | none => none
    | _ => none
  | .unOp op _ x => some (.un op x)
  | .convert src dst x => match P.underlying src with
    | some (.int _) => match P.underlying dst with
      | some (.int k) => some (.conv k x)
      | _ => none
    | some (.slice e) => match P.underlying e with
      | some (.int .u8) => match P.underlying dst with
        | some .string => some (.b2s x)
        | some (.slice _) => if src = dst then some (.sconv x) else none
        | _ => none
      | _ => none
    | _ => none
  | .extract x i => some (.ext i x)
  | .makeFunc (.func f) first caps => if first.size = 0 then some (.clo f caps.toList) else none
  | .nilCheck x => some (.nilc x)
  | .slice t x lo hi mx => match mx with
    | none => match P.underlying t with
      | some (.slice e) => match P.info? e with
        | some j => some (.slice j.size x lo hi)
        | none => none
      | _ => none
    | some mx => match lo, hi, mx with
      | none, some (.const (.int .i64 0)), .const (.int .i64 0) => match P.underlying t with
        | some (.slice e) => match P.info? e with
          | some j => some (.slice0 e j.size x)
          | none => none
        | _ => none
      | _, _, _ => none
  | .makeSlice t n c => match P.underlying t with
    | some (.slice e) => match P.info? e with
      | some j => match j.zero with
        | some z => if z.cells.size = j.size ∧ z.cells.toList.all (·.oneCell') then some (.mksl e j.size j.bytes z.cells.toList n c) else none
        | none => none
      | none => none
    | _ => none
  | .buildSlice t n ps => match P.underlying t with
    | some (.slice e) => match P.info? e with
      | some j => match j.zero with
        | some z => if z.cells.size = j.size ∧ 0 < j.size ∧ z.cells.toList.all (·.oneCell') ∧ n * j.size ≤ 16777216 then
            some (.bslice e j.size n (madeCells z.cells (n * j.size)).toList (ps.toList.map fun (i, x) => (i * j.size, j.size, x))) else none
        | none => none
      | none => none
    | _ => none
  | .call c => match c.callee with
    | .value (.func f) => some (.call f c.args.toList)
    | .value g => some (.callv g c.args.toList)
    | .builtin .len => match c.argTypes.toList, c.args.toList with
      | [t], [x] => match P.underlying t with
        | some (.slice _) => some (.len false x)
        | some .string => some (.len true x)
        | _ => none
      | _, _ => none
    | .builtin .append => match c.argTypes.toList, c.args.toList with
      | [t, u], [x, y] => match P.underlying t with
        | some (.slice e) => match P.underlying u with
          | some (.slice _) => match P.info? e with
            | some j => match j.zero with
              | some z => if z.cells.size = j.size ∧ 0 < j.bytes then some (.append e j.size j.bytes x y) else none
              | none => none
            | none => none
          | some (.int .i64) => match P.info? e with
            | some j => match j.zero with
              | some z => if (z.cells.size = j.size ∧ 0 < j.bytes) ∧ 0 < j.size ∧ z.cells.toList.all (·.oneCell') then some (.appz e j.size j.bytes z.cells.toList x y) else none
              | none => none
            | none => none
          | _ => none
        | _ => none
      | _, _ => none
    | .builtin .cap => match c.argTypes.toList, c.args.toList with
      | [t], [x] => match P.underlying t with
        | some (.slice _) => some (.cap x)
        | _ => none
      | _, _ => none
    | .builtin .copy => match c.argTypes.toList, c.args.toList with
      | [t, u], [x, y] => match P.underlying t with
        | some (.slice e) => match P.underlying u with
          | some (.slice _) => match P.info? e with
            | some j => if j.size = 1 then some (.copy x y) else none
            | none => none
          | _ => none
        | _ => none
      | _, _ => none
    | .builtin b => compBi b c.args.toList
    | _ => none
  | _ => none
end Go.Proofs.YtdenddhdeloceaaGreatDoor
namespace Go.Proofs.YtdenddhdeloceaaGreatDoor
open Go.RowKit
variable {P : Program} {c : Cx} {nb : Nat}

theorem run_isAgg {t : TypeId} {d : TypeDesc} (hu : P.underlying t = some d) (w : World) : (isAgg t).run P w = .ok d.isRow w := by
  unfold isAgg
  rw [Sem.run_bind, run_underlying hu w]
  cases d <;> simp

/-- what a held row's cells say of memory -/
theorem HR.cells (h : HR c) {id b : Nat} {y : Bool} {e : TypeId} {cells : List AV} (hs : c.σ id = some (.row y e cells)) (hφ : c.φ id = some (some b)) :
    ∃ cs, c.w.heap[b]? = some (.cells cs e (0, 0)) ∧ cells.length ≤ cs.size ∧ (∀ (j : Nat) a, cells[j]? = some a → ∃ u, cs[j]? = some u ∧ u.oneCell' = true ∧ VR c a u) ∧
      ∀ (j : Nat) a, cells[j]? = some a → ∃ u, c.w.cell? ⟨b, 0 + j, none⟩ = some u ∧ u.oneCell' = true ∧ VR c a u := by
  rcases h.row id y e cells hs with ⟨h1, _⟩ | ⟨b', cs, h1, h2, h3, h4, h5⟩
  · rw [hφ] at h1; cases h1
  · rw [hφ] at h1; cases h1
    refine ⟨cs, h2, h4, h5, fun j a hj => ?_⟩
    obtain ⟨u, h6, h7, h8⟩ := h5 j a hj
    exact ⟨u, by rw [Nat.zero_add]; simp [World.cell?, h2, h6], h7, h8⟩

/-- cells of a list that are read: the values that lie there -/
theorem range_of {b off0 off n : Nat} {cells l : List AV} (hm : ∀ (j : Nat) a, cells[j]? = some a → ∃ u, c.w.cell? ⟨b, off0 + j, none⟩ = some u ∧ u.oneCell' = true ∧ VR c a u) (hl : getN cells off n = some l) :
    ∃ us : List Value, us.length = n ∧ c.w.rangeAt b (off0 + off) us ∧ VRl c l us := by
  obtain ⟨h1, h2⟩ := getN_spec hl
  have key : ∀ (l : List AV) (off : Nat), (∀ (j : Nat) a, l[j]? = some a → cells[off + j]? = some a) → ∃ us : List Value, us.length = l.length ∧ c.w.rangeAt b (off0 + off) us ∧ VRl c l us := by
    intro l
    induction l with
    | nil => intro off _; exact ⟨[], rfl, fun j v hj => by simp at hj, rfl⟩
    | cons a r ih =>
      intro off hh
      obtain ⟨us, e1, e2, e3⟩ := ih (off + 1) (fun j a' hj => by have := hh (j + 1) a' (by simpa using hj); rwa [Nat.add_assoc, Nat.add_comm 1 j])
      obtain ⟨u, e4, e5, e6⟩ := hm _ _ (hh 0 a rfl)
      refine ⟨u :: us, by simp [e1], fun j v hj => ?_, u, us, rfl, e5, e6, e3⟩
      cases j with
      | zero => simp at hj; subst hj; exact e4
      | succ j => simp at hj; have := e2 j v hj; rwa [show off0 + (off + 1) + j = off0 + off + (j + 1) from by omega] at this
  obtain ⟨us, e1, e2, e3⟩ := key l off h2
  exact ⟨us, e1.trans h1, e2, e3⟩

theorem run_loadVar_one {t : TypeId} {d : TypeDesc} (hu : P.underlying t = some d) (hd : d.isRow = false) {a : Addr} {u : Value} {w : World} (h : w.cell? a = some u) : (loadVar t a).run P w = .ok u w := by
  simp [loadVar, run_isAgg hu, hd, h]
theorem run_loadVar_all {t : TypeId} {d : TypeDesc} {i : TypeInfo} (hu : P.underlying t = some d) (hd : d.isRow = true) (hi : P.info? t = some i) {b o : Nat} {us : List Value} {w : World} (h : w.rangeAt b o us) (hl : us.length = i.size) :
    (loadVar t ⟨b, o, none⟩).run P w = .ok (.agg us.toArray) w := run_loadVar_mid w b o t us d h hu hd (by rw [hi]; simp [hl])

theorem g_ldA {t : TypeId} {d : TypeDesc} {i : TypeInfo} (hu : P.underlying t = some d) (hi : P.info? t = some i) {b off0 off : Nat} {cells : List AV}
    (hm : ∀ (j : Nat) a, cells[j]? = some a → ∃ u, c.w.cell? ⟨b, off0 + j, none⟩ = some u ∧ u.oneCell' = true ∧ VR c a u) : Gives P (loadVar t ⟨b, off0 + off, none⟩) c (ldA d.isRow i.size cells off) nb := by
  unfold ldA
  cases hd : d.isRow with
  | true =>
    rw [if_pos rfl]
    split
    · rename_i l hl
      obtain ⟨us, e1, e2, e3⟩ := range_of hm hl
      exact Gives.pure (run_loadVar_all hu hd hi e2 e1) ⟨us, rfl, e3⟩
    · intro r R W h; cases h
  | false =>
    rw [if_neg (by decide)]
    split
    · rename_i x hx
      obtain ⟨u, e1, e2, e3⟩ := hm _ _ hx
      exact Gives.pure (run_loadVar_one hu hd e1) e3
    · intro r R W h; cases h
theorem Gives.fail {s : Sem Value} : Gives P s c .fail nb := fun _ _ _ h => by cases h
/-- to look at a row -/
theorem Gives.look {s : Sem Value} {id : Nat} {k : AObj → AM} (h : HR c → ∀ o, c.σ id = some o → Gives P s c (k o) nb) : Gives P s c (.rd id k) nb := by
  intro r R W hr hh hn
  rw [AM.run] at hr
  split at hr
  · rename_i o ho
    split at hr
    · rename_i r' R' W' hk
      simp at hr
      obtain ⟨rfl, rfl, rfl⟩ := hr
      exact h hh o ho _ _ _ hk hh hn
    · cases hr
  · cases hr
theorem g_load {t : TypeId} {d : TypeDesc} {i : TypeInfo} (hu : P.underlying t = some d) (hi : P.info? t = some i) {a : AV} {u : Value} (h : VR c a u) :
    Gives P (Instr.loadAt t u) c (loadA d.isRow i.size a) nb := by
  cases a with
  | op id off =>
    obtain ⟨b, hφ, rfl⟩ := h
    refine Gives.look fun hr o ho => ?_
    obtain ⟨y, e, cells⟩ := o
    obtain ⟨cs, _, _, _, hm⟩ := hr.cells ho hφ
    have := g_ldA (P := P) (c := c) (nb := nb) hu hi (off := off) hm
    rw [Nat.zero_add] at this
    simpa [Instr.loadAt, Instr.sureAddr] using this
  | fp fr cells off =>
    obtain ⟨b, o0, rfl, _, _, hm⟩ := h
    rw [VRm_iff] at hm
    exact g_ldA (P := P) (c := c) (nb := nb) hu hi (off := off) hm
  | wp k =>
    obtain ⟨b, off, rfl, hX, hT, hY, hk, sz, ⟨cs, e, hb, hsz, hcs⟩, hle⟩ := h
    simp only [loadA]
    split
    · rename_i hrow
      have hlt : off < cs.size := by omega
      have hc : c.w.cell? ⟨b, off, none⟩ = some cs[off] := by simp [World.cell?, hb, hlt]
      exact Gives.pure (run_loadVar_one hu hrow hc) (hcs off _ (by omega) (by simp [hlt]))
    · exact Gives.fail
  | _ => exact Gives.fail

theorem g_new {t : TypeId} {i : TypeInfo} {z : Value} (hi : P.info? t = some i) (hz : i.zero = some z) (h1 : z.cells.toList.all (·.oneCell') = true) :
    Gives P (Instr.alloc t true (.tuple #[])) c (.ret (.op nb 0) [(nb, some (.row true t (z.cells.toList.map .v)))]) nb := by
  intro r R W h hr hn
  simp [AM.run] at h
  obtain ⟨rfl, rfl, rfl⟩ := h
  have T := Then.alloc hr ((hn nb (Nat.le_refl _)).resolve_right (by omega)) z.cells t (z.cells.toList.map .v) (by simp) (fun j a hj => by
    rw [List.getElem?_map, Option.map_eq_some_iff] at hj
    obtain ⟨x, hx, rfl⟩ := hj
    exact ⟨x, by simpa using hx, List.all_eq_true.1 h1 x (List.mem_of_getElem? hx), rfl⟩) true
  refine ⟨.pointer (some ⟨c.w.heap.size, 0, none⟩), _, ?_, ⟨c.w.heap.size, by simp [Cx.put], rfl⟩, T⟩
  simp [Instr.alloc, zeroValue, typeInfo, hi, hz, newVar, newRow, Cx.put, World.alloc_eq]
theorem g_box {t : TypeId} {a : AV} {u : Value} (h : VR c a u) :
    Gives P (Instr.box t u) c (boxA nb t a) nb := by
  unfold boxA
  split
  · rename_i l hl
    intro r R W h' hr hn
    simp [AM.run] at h'
    obtain ⟨rfl, rfl, rfl⟩ := h'
    have hc := VRl_iff.1 (VR_cellsOf h hl)
    have T := Then.alloc hr ((hn nb (Nat.le_refl _)).resolve_right (by omega)) u.cells t l (by have := hc.1; simp at this; omega) (fun j a hj => by simpa using hc.2 j a hj) true
    refine ⟨.pointer (some ⟨c.w.heap.size, 0, none⟩), _, ?_, ⟨c.w.heap.size, by simp [Cx.put], rfl⟩, T⟩
    simp [Instr.box, newVar, newRow, Cx.put, World.alloc_eq]
  · exact Gives.fail

theorem g_store {t : TypeId} {i : TypeInfo} (hi : P.info? t = some i) {a x : AV} {u v : Value} (h : VR c a u) (hx : VR c x v) :
    Gives P (do Instr.storeAt t u v; pure undef) c (storeA i.size a x) nb := by
  cases a with
  | op id off =>
    obtain ⟨b, hφ, rfl⟩ := h
    simp only [storeA]
    split
    · rename_i l hl
      refine Gives.look fun hr o ho => ?_
      obtain ⟨y, e, cells⟩ := o
      simp only
      split
      · rename_i hh
        intro r R W h' _ hn
        simp [AM.run] at h'
        obtain ⟨rfl, rfl, rfl⟩ := h'
        obtain ⟨cs, hb, hle, hcs, hm⟩ := hr.cells ho hφ
        have hc := VRl_iff.1 (VR_cellsOf hx hl)
        have T := Then.store hr nb ho hφ hb off v.cells.toList (cells' := setN cells off l) (by have := hc.1; omega) (by rw [setN_length]; exact hle) (fun j a hj => by
          rw [setN_get _ (by omega)] at hj
          rw [setA_get _ _ _ _ (by have := hc.1; omega), hc.1]
          split at hj
          · rename_i hin
            rw [if_pos hin]
            exact hc.2 _ _ hj
          · rename_i hin
            rw [if_neg hin]
            exact hcs _ _ hj)
        refine ⟨undef, _, ?_, trivial, T⟩
        have ht : c.w.there b off v.cells.size := fun j hj => by
          have hj' : off + j < cells.length := by have := hc.1; simp at this; omega
          obtain ⟨u, e1, _⟩ := hm (off + j) _ (List.getElem?_eq_getElem hj')
          rw [Nat.zero_add] at e1
          exact ⟨by rw [e1]; rfl, by simp [World.frozen?, hb]⟩
        have h1 : v.cells.all (·.oneCell') = true := by
          rw [Array.all_eq_true_iff_forall_mem]
          intro q hq
          obtain ⟨j, hj, rfl⟩ := Array.mem_iff_getElem.1 hq
          have hj' : j < l.length := by have := hc.1; simp at this; omega
          obtain ⟨u, e1, e2, _⟩ := hc.2 j _ (List.getElem?_eq_getElem hj')
          have : v.cells[j]? = some u := by simpa using e1
          rw [Array.getElem?_eq_getElem hj] at this
          simp at this
          rw [this]; exact e2
        have hsz : (P.info? t).map (·.size) = some v.cells.size := by rw [hi]; have := hc.1; simp at this; simp; omega
        have hrun := run_storeVar_mid (P := P) c.w b off t v.cells ht hsz h1
        have hsame : storeVar t ⟨b, off, none⟩ v = storeVar t ⟨b, off, none⟩ (.agg v.cells) := rfl
        simp [Instr.storeAt, Instr.sureAddr, hsame, hrun]
      · exact Gives.fail
    · exact Gives.fail
  | wp k =>
    cases x with
    | wv k' =>
      simp only [storeA]
      split
      · rename_i hh
        obtain ⟨rfl, hn1⟩ := hh
        intro r R W h' hr hn
        simp [AM.run] at h'
        obtain ⟨rfl, rfl, rfl⟩ := h'
        obtain ⟨b, off, rfl, hw⟩ := h
        have T := Then.wild hr nb hw (x := v) hx
        obtain ⟨hX, hT, hY, hk, sz, ⟨cs, e, hb, hsz, hcs⟩, hle⟩ := hw
        refine ⟨undef, _, ?_, trivial, T⟩
        have h1 : v.oneCell' = true := by rcases hk with rfl | rfl <;> (obtain ⟨q, rfl⟩ := hx; rfl)
        have hcv : v.cells = #[v] := by rcases hk with rfl | rfl <;> (obtain ⟨q, rfl⟩ := hx; rfl)
        have hlt : off < cs.size := by omega
        have ht : c.w.there b off v.cells.size := fun j hj => by
          rw [hcv] at hj
          have : j = 0 := by simp at hj; exact hj
          subst this
          exact ⟨by simp [World.cell?, hb, hlt], by simp [World.frozen?, hb]⟩
        have hsz : (P.info? t).map (·.size) = some v.cells.size := by rw [hi, hcv]; simp [hn1]
        have hrun := run_storeVar_mid (P := P) c.w b off t v.cells ht hsz (by rw [hcv]; simp [h1])
        have hsame : storeVar t ⟨b, off, none⟩ v = storeVar t ⟨b, off, none⟩ (.agg v.cells) := by rw [hcv]; rcases hk with rfl | rfl <;> (obtain ⟨q, rfl⟩ := hx; rfl)
        rw [hcv] at hsame hrun
        simp [Instr.storeAt, Instr.sureAddr, hsame, hrun]
      · exact Gives.fail
    | _ => exact Gives.fail
  | _ => exact Gives.fail
end Go.Proofs.YtdenddhdeloceaaGreatDoor
namespace Go.Proofs.YtdenddhdeloceaaGreatDoor
open Go.RowKit
variable {P : Program} {c : Cx} {nb : Nat}

theorem fold_setA : ∀ (us : List Value) (cs : Array Value) (o k : Nat), (us.zipIdx k).foldl (fun cs (x : Value × Nat) => cs.setIfInBounds (o + x.2) x.1) cs = setA cs (o + k) us
  | [], _, _, _ => rfl
  | u :: us, cs, o, k => by
    rw [List.zipIdx_cons, List.foldl_cons, setA, fold_setA us _ o (k + 1)]
    rw [Nat.add_assoc]
theorem VRl_set {l q : List AV} {cs : Array Value} {us : List Value} {o : Nat} (h : VRl c l cs.toList) (hq : VRl c q us) (ho : o + q.length ≤ l.length) : VRl c (setN l o q) (setA cs o us).toList := by
  rw [VRl_iff] at *
  have hl : l.length = cs.size := by simpa using h.1.symm
  refine ⟨by rw [setN_length, Array.length_toList, setA_size, hl], fun j a hj => ?_⟩
  rw [setN_get _ ho] at hj
  rw [Array.getElem?_toList, setA_get _ _ _ _ (by omega), hq.1]
  split at hj
  · rename_i hin; rw [if_pos hin]; exact hq.2 _ _ hj
  · rename_i hin; rw [if_neg hin]; have := h.2 j a hj; simpa using this
theorem fill_ok (ρ : Operand → AV) (ev : Operand → Value) (hv : ∀ x, VR c (ρ x) (ev x)) (place : Nat → Option (Nat × Nat)) :
    ∀ (ps : List (Nat × Operand)) (q : List (Nat × Nat × Operand)) (l l' : List AV) (cs : Array Value), (∀ j : Nat, (ps[j]?).isSome = (q[j]?).isSome) → (∀ (j : Nat) i x o n y, ps[j]? = some (i, x) → q[j]? = some (o, n, y) → place i = some (o, n) ∧ x = y) →
      VRl c l cs.toList → fillA ρ l q = some l' → ∃ cs', Instr.fill place cs (ps.map fun (i, x) => (i, ev x)) = some cs' ∧ VRl c l' cs'.toList
  | [], q, l, l', cs, hs, _, h, hf => by
    cases q with
    | nil => simp [fillA] at hf; subst hf; exact ⟨cs, rfl, h⟩
    | cons a q => have := hs 0; simp at this
  | (i, x) :: ps, q, l, l', cs, hs, hp, h, hf => by
    cases q with
    | nil => have := hs 0; simp at this
    | cons a q =>
      obtain ⟨o, n, y⟩ := a
      obtain ⟨hpl, rfl⟩ := hp 0 i x o n y rfl rfl
      rw [fillA] at hf
      split at hf
      · rename_i cs0 hc0
        split at hf
        · rename_i hh
          have hc := VR_cellsOf (hv x) hc0
          have hcl := (VRl_iff.1 hc).1
          have hll := (VRl_iff.1 h).1
          simp at hcl hll
          obtain ⟨cs', e1, e2⟩ := fill_ok ρ ev hv place ps q _ l' _ (fun j => by have := hs (j + 1); simpa using this) (fun j i x o n y h1 h2 => hp (j + 1) i x o n y (by simpa using h1) (by simpa using h2)) (VRl_set h hc (by omega)) hf
          refine ⟨cs', ?_, e2⟩
          have hfold : (ev x).cells.zipIdx.foldl (fun cs (x : Value × Nat) => cs.setIfInBounds (o + x.2) x.1) cs = setA cs o (ev x).cells.toList := by
            have := fold_setA (ev x).cells.toList cs o 0
            rw [Nat.add_zero] at this
            rw [← this, ← Array.foldl_toList, Array.toList_zipIdx]
          rw [List.map_cons, Instr.fill]
          simp only [hpl]
          rw [if_neg (by simp; omega)]
          exact (congrArg (fun z => Instr.fill place z (ps.map fun (i, x) => (i, ev x))) hfold).trans e1
        · cases hf
      · cases hf

theorem placesOf_spec : ∀ {fs : List Field} {l : List (Nat × Nat)} {w : World}, placesOf P fs = some l → (fs.mapM fun f => do pure (f.offset, ← sizeOf f.type) : Sem (List (Nat × Nat))).run P w = .ok l w
  | [], l, w, h => by simp [placesOf] at h; subst h; rfl
  | f :: fs, l, w, h => by
    rw [placesOf] at h
    split at h
    · rename_i i hi
      split at h
      · rename_i l' hl
        simp at h
        subst h
        have := placesOf_spec (w := w) hl
        have e : (sizeOf f.type).run P w = .ok i.size w := by simp [sizeOf, typeInfo, hi]
        rw [List.mapM_cons, Sem.run_bind, Sem.run_bind, e]
        simp only [Result.andThen_ok, Sem.run_pure, Sem.run_bind]
        rw [this]
        rfl
      · cases h
    · cases h
theorem partsOf_spec : ∀ {l : List (Nat × Nat)} {ps : List (Nat × Operand)} {q : List (Nat × Nat × Operand)}, partsOf l ps = some q → (∀ j : Nat, (ps[j]?).isSome = (q[j]?).isSome) ∧
    ∀ (j : Nat) i x o n y, ps[j]? = some (i, x) → q[j]? = some (o, n, y) → l[i]? = some (o, n) ∧ x = y
  | l, [], q, h => by simp [partsOf] at h; subst h; simp
  | l, (i, x) :: ps, q, h => by
    rw [partsOf] at h
    split at h
    · rename_i o n ho
      split at h
      · rename_i q' hq
        simp at h
        subst h
        obtain ⟨h1, h2⟩ := partsOf_spec hq
        refine ⟨fun j => ?_, fun j i' x' o' n' y' e1 e2 => ?_⟩
        · cases j with
          | zero => rfl
          | succ j => simpa using h1 j
        · cases j with
          | zero => simp at e1 e2; obtain ⟨rfl, rfl⟩ := e1; obtain ⟨rfl, rfl, rfl⟩ := e2; exact ⟨ho, rfl⟩
          | succ j => exact h2 j i' x' o' n' y' (by simpa using e1) (by simpa using e2)
      · cases h
    · cases h
theorem VRl_vals {us : List Value} (h : us.all (·.oneCell') = true) : VRl c (us.map .v) us := by
  rw [VRl_iff]
  refine ⟨by simp, fun j a hj => ?_⟩
  rw [List.getElem?_map, Option.map_eq_some_iff] at hj
  obtain ⟨x, hx, rfl⟩ := hj
  exact ⟨x, hx, List.all_eq_true.1 h x (List.mem_of_getElem? hx), rfl⟩
theorem g_build {t : TypeId} {i : TypeInfo} {z : Value} {fs : Array Field} {l : List (Nat × Nat)} {ps : Array (Nat × Operand)} {q : List (Nat × Nat × Operand)} (hi : P.info? t = some i) (hz : i.zero = some z) (hu : P.underlying t = some (.struct fs))
    (hl : placesOf P fs.toList = some l) (hq : partsOf l ps.toList = some q) (h1 : z.cells.toList.all (·.oneCell') = true) (ρ : Operand → AV) (ev : Operand → Value) (hv : ∀ x, VR c (ρ x) (ev x)) :
    Gives P (Instr.build t (ps.map fun (i, x) => (i, ev x))) c (match fillA ρ (z.cells.toList.map .v) q with | some l => .ret (.agg l) [] | none => .fail) nb := by
  split
  · rename_i l' hf
    obtain ⟨s1, s2⟩ := partsOf_spec hq
    obtain ⟨cs', e1, e2⟩ := fill_ok ρ ev hv (fun k => l.toArray[k]?) ps.toList q _ l' z.cells s1 (fun j i x o n y a b => by have := s2 j i x o n y a b; simpa using this) (VRl_vals h1) hf
    refine Gives.pure ?_ ⟨cs'.toList, rfl, e2⟩
    have hm : (fs.mapM fun f => do pure (f.offset, ← sizeOf f.type) : Sem (Array (Nat × Nat))).run P c.w = .ok l.toArray c.w := by
      rw [Array.mapM_eq_mapM_toList]
      have := placesOf_spec (w := c.w) hl
      rw [Sem.run_map, this]; rfl
    have e1' : Instr.fill (fun k => l.toArray[k]?) z.cells (ps.map fun (i, x) => (i, ev x)).toList = some cs' := by rw [Array.toList_map]; exact e1
    simp only [Instr.build, zeroValue, typeInfo, Sem.run_bind, run_program, Result.andThen_ok, hi, Sem.run_pure, hz, run_underlying hu, hm]
    rw [e1']
    simp
  · exact Gives.fail
theorem g_bslice {t e : TypeId} {n : Nat} {j : TypeInfo} {z : Value} {ps : Array (Nat × Operand)} (hu : P.underlying t = some (.slice e)) (hj : P.info? e = some j) (hz : j.zero = some z)
    (hc : z.cells.size = j.size ∧ 0 < j.size ∧ z.cells.toList.all (·.oneCell') = true ∧ n * j.size ≤ 16777216) (ρ : Operand → AV) (ev : Operand → Value) (hv : ∀ x, VR c (ρ x) (ev x)) :
    Gives P (Instr.buildSlice t n (ps.map fun (i, x) => (i, ev x))) c (match fillA ρ ((madeCells z.cells (n * j.size)).toList.map .v) (ps.toList.map fun (i, x) => (i * j.size, j.size, x)) with | some l => .ret (.os nb 0 n j.size) [(nb, some (.row true e l))] | none => .fail) nb := by
  split
  · rename_i l' hf
    intro r R W h' hr hn
    simp [AM.run] at h'
    obtain ⟨rfl, rfl, rfl⟩ := h'
    have hone : (madeCells z.cells (n * j.size)).toList.all (·.oneCell') = true := by
      rw [List.all_eq_true]
      intro x hx
      simp [madeCells] at hx
      obtain ⟨k, hk, rfl⟩ := hx
      have hlt : k % z.cells.size < z.cells.size := Nat.mod_lt _ (by omega)
      rw [List.all_eq_true] at hc
      exact hc.2.2.1 _ (by rw [getElem!_pos z.cells (k % z.cells.size) hlt]; simp)
    obtain ⟨cs', e1, e2⟩ := fill_ok ρ ev hv (fun i => some (i * j.size, j.size)) ps.toList _ _ l' (madeCells z.cells (n * j.size)) (fun k => by simp) (fun k i x o m y a b => by
      rw [List.getElem?_map, a] at b
      simp at b
      exact ⟨by rw [b.1, b.2.1], b.2.2⟩) (VRl_vals hone) hf
    have hl := (VRl_iff.1 e2).1
    have hfl : l'.length = n * j.size := by
      have key : ∀ (q : List (Nat × Nat × Operand)) (l l' : List AV), fillA ρ l q = some l' → l'.length = l.length := by
        intro q
        induction q with
        | nil => intro l l' h; simp [fillA] at h; rw [h]
        | cons a q ih =>
          intro l l' h
          rw [fillA] at h
          split at h
          · split at h
            · rw [ih _ _ h, setN_length]
            · cases h
          · cases h
      rw [key _ _ _ hf]; simp [size_madeCells]
    have T := Then.alloc hr ((hn nb (Nat.le_refl _)).resolve_right (by omega)) cs' e l' (by simp at hl; omega) (fun k a hk => by simpa using (VRl_iff.1 e2).2 k a hk) true
    refine ⟨.slice (some ⟨c.w.heap.size, 0, none⟩) n n, _, ?_, ⟨_, _, rfl, Nat.le_refl _, .inr ⟨c.w.heap.size, by simp [Cx.put], rfl, cs', e, (0, 0), heap_new _ _, by simp at hl; omega⟩⟩, T⟩
    have e1' : Instr.fill (fun i => some (i * j.size, j.size)) (madeCells z.cells (n * j.size)) (ps.map fun (i, x) => (i, ev x)).toList = some cs' := by rw [Array.toList_map]; exact e1
    by_cases hn0 : n = 0
    · have hm0 : madeCells z.cells (n * j.size) = (Array.range (n * j.size)).map ((#[] : Array Value)[· % (#[] : Array Value).size]!) := by subst hn0; simp [madeCells]
      rw [hm0] at e1'
      have hz0 : n * j.size = 0 := by rw [hn0, Nat.zero_mul]
      rw [hz0] at e1'
      simp only [Instr.buildSlice, Sem.run_bind, run_underlying hu, Result.andThen_ok, sizeOf, typeInfo, run_program, hj, Sem.run_pure, hz0, if_neg (show ¬ 0 > 2 ^ 24 by decide), if_true]
      rw [e1']
      simp [newRow, Cx.put, World.alloc_eq]
    · have hz0 : ¬ n * j.size = 0 := by rw [Nat.mul_eq_zero]; omega
      have hbig : ¬ n * j.size > 2 ^ 24 := by omega
      simp only [madeCells] at e1'
      simp only [Instr.buildSlice, Sem.run_bind, run_underlying hu, Result.andThen_ok, sizeOf, typeInfo, run_program, hj, Sem.run_pure, if_neg hz0, if_neg hbig, zeroValue, hz, e1']
      simp [newRow, Cx.put, World.alloc_eq]
  · exact Gives.fail
end Go.Proofs.YtdenddhdeloceaaGreatDoor
namespace Go.Proofs.YtdenddhdeloceaaGreatDoor
open Go.RowKit
variable {P : Program} {c : Cx} {nb : Nat}

theorem range_list {b : Nat} : ∀ {l : List AV} {off : Nat}, (∀ (j : Nat) a, l[j]? = some a → ∃ u, c.w.cell? ⟨b, off + j, none⟩ = some u ∧ u.oneCell' = true ∧ VR c a u) →
    ∃ us : List Value, us.length = l.length ∧ c.w.rangeAt b off us ∧ VRl c l us
  | [], off, _ => ⟨[], rfl, fun j v hj => by simp at hj, rfl⟩
  | a :: r, off, hh => by
    obtain ⟨us, e1, e2, e3⟩ := range_list (l := r) (off := off + 1) (fun j a' hj => by have := hh (j + 1) a' (by simpa using hj); rwa [Nat.add_assoc, Nat.add_comm 1 j])
    obtain ⟨u, e4, e5, e6⟩ := hh 0 a rfl
    refine ⟨u :: us, by simp [e1], fun j v hj => ?_, u, us, rfl, e5, e6, e3⟩
    cases j with
    | zero => simp at hj; subst hj; exact e4
    | succ j => simp at hj; have := e2 j v hj; rwa [show off + 1 + j = off + (j + 1) from by omega] at this
theorem VRl_one {l : List AV} {us : List Value} (h : VRl c l us) : ∀ u ∈ us, u.oneCell' = true := by
  intro u hu
  obtain ⟨j, hj, rfl⟩ := List.mem_iff_getElem.1 hu
  obtain ⟨h1, h2⟩ := VRl_iff.1 h
  obtain ⟨v, e1, e2, _⟩ := h2 j _ (List.getElem?_eq_getElem (by omega))
  rw [List.getElem?_eq_getElem hj] at e1
  cases e1
  exact e2

theorem src_zero {sz : Nat} {tx e' : TypeId} (hk : P.underlying tx = some (.slice e')) (A : Option Addr) (k : Nat) (w : World) : Src P sz tx (.slice A 0 k) 0 [] w :=
  ⟨.inl ⟨e', hk⟩, fun _ => rfl, by cases A <;> simp [Builtin.firstCells, loadCells, loadCellsFrom], by cases A <;> simp [Builtin.firstCells, loadCells, loadCellsFrom], by simp, fun _ h => by cases h⟩
theorem g_src {sz : Nat} {tx e' : TypeId} (hk : P.underlying tx = some (.slice e')) {b : AV} {v : Value} (h : VR c b v) {s : Sem Value} {k : Nat → List AV → AM}
    (hs : HR c → ∀ m l news, Src P sz tx v m news c.w → VRl c l news → Gives P s c (k m l) nb) : Gives P s c (srcA sz b k) nb := by
  cases b with
  | v x =>
    have e : v = x := h
    subst e
    unfold srcA
    split
    · rename_i h0; cases h0
    · rename_i h0; cases h0
    · rename_i k' h0
      cases h0
      intro r R W hr hh hn
      exact hs hh 0 [] [] (src_zero hk _ _ _) rfl r R W hr hh hn
    · exact Gives.fail
  | fs fr cs m =>
    unfold srcA
    simp only
    split
    · rename_i hl
      obtain ⟨A, k', rfl, hk', hm⟩ := h
      intro r R W hr hh hn
      by_cases h0 : m = 0
      · subst h0
        have : cs = [] := List.eq_nil_of_length_eq_zero (by simpa using hl)
        subst this
        exact hs hh 0 [] [] (src_zero hk _ _ _) rfl r R W hr hh hn
      · obtain ⟨b, off, rfl, _, _, hm⟩ := hm h0
        obtain ⟨us, e1, e2, e3⟩ := range_list (VRm_iff.1 hm)
        exact hs hh m cs us (Src.ofSlice c.w hk ⟨b, off, none⟩ m k' us (by omega) (fun j u hu => by rw [Addr.add_mid]; exact e2 j u hu) (VRl_one e3)) e3 r R W hr hh hn
    · exact Gives.fail
  | os id off m sz' =>
    obtain ⟨A, k', rfl, hk', hm⟩ := h
    refine Gives.look fun hr o ho => ?_
    obtain ⟨y, e, cells⟩ := o
    simp only
    split
    · rename_i hl
      obtain ⟨rfl, hl⟩ := hl
      by_cases h0 : m = 0
      · subst h0
        have : (cells.drop off).take (0 * sz') = [] := by simp
        rw [this]
        exact hs hr 0 [] [] (src_zero hk _ _ _) rfl
      · rcases hm with ⟨_, h1⟩ | ⟨b, hφ, rfl, _⟩
        · omega
        · obtain ⟨cs, _, _, _, hm⟩ := hr.cells ho hφ
          obtain ⟨us, e1, e2, e3⟩ := range_list (c := c) (b := b) (off := off) (l := (cells.drop off).take (m * sz')) (fun j a hj => by
            rw [List.getElem?_take] at hj
            split at hj
            · rw [List.getElem?_drop] at hj
              have := hm _ _ hj
              rwa [Nat.zero_add] at this
            · cases hj)
          exact hs hr m _ us (Src.ofSlice c.w hk ⟨b, off, none⟩ m k' us (by omega) (fun j u hu => by rw [Addr.add_mid]; exact e2 j u hu) (VRl_one e3)) e3
    · exact Gives.fail
  | _ => exact Gives.fail

theorem grownCap_ge (w : World) (need old : Nat) (e : TypeId) : need ≤ grownCap w need old e := by
  unfold grownCap
  simp only [Question.cut]
  omega
theorem zeroCells_size (z : Array Value) (n : Nat) : (Builtin.zeroCells z n).size = n * z.size := by simp [Builtin.zeroCells]
theorem mkG {s : Sem Value} {r : AV} {v : Value} {W : List (Nat × Option AObj)} {d : Cx} (T : Then c nb W d) (hv : VR d r v) (hs : s.run P c.w = .ok v d.w) : ∃ v d, s.run P c.w = .ok v d.w ∧ VR d r v ∧ Then c nb W d := ⟨v, d, hs, hv, T⟩
/-- nothing is appended where there is room for nothing -/
theorem run_append_noop {t tx ty e : TypeId} {i : TypeInfo} (ht : P.underlying t = some (.slice e)) (hi : P.info? e = some i) {v : Value} {news : List Value} {A : Option Addr} {n k : Nat} (hs : Src P i.size tx v 0 news c.w) (hnk : n ≤ k) :
    (Builtin.append_ #[t, tx] ty #[.slice A n k, v]).run P c.w = .ok (.slice A n k) c.w := by
  have hn : news = [] := List.eq_nil_of_length_eq_zero (by have := hs.newsLen; simpa using this)
  subst hn
  have hc := hs.cells
  rcases hs.kind with ⟨e', hk⟩ | hk <;> cases A <;> simp [Builtin.append_, run_underlying ht, run_underlying hk, sizeOf, typeInfo, hi, hs.len, hnk, hc, storeCells]

theorem g_appA {t tx ty e : TypeId} {i : TypeInfo} {z : Value} (ht : P.underlying t = some (.slice e)) (hi : P.info? e = some i) (hz : i.zero = some z) (hzs : z.cells.size = i.size) (hb0 : 0 < i.bytes) {a : AV} {u v : Value} (h : VR c a u)
    {m : Nat} {l : List AV} {news : List Value} (hs : Src P i.size tx v m news c.w) (hl : VRl c l news) :
    Gives P (Builtin.append_ #[t, tx] ty #[u, v]) c (appA nb e i.size i.bytes a m l) nb := by
  have hll := (VRl_iff.1 hl).1
  have hnl := hs.newsLen
  have b63 : ∀ q : Nat, q * i.bytes ≤ 140737488355328 → ((q : Nat) : Int) ≤ 9223372036854775807 := fun q hq => by have := Nat.le_mul_of_pos_right q hb0; omega
  cases a with
  | v x =>
    have e0 : u = x := h
    subst e0
    unfold appA
    split
    · rename_i h0
      cases h0
      split
      · rename_i hb
        intro r R W hr hh hn
        simp [AM.run] at hr
        obtain ⟨rfl, rfl, rfl⟩ := hr
        have hn1 := (hn nb (Nat.le_refl _)).resolve_right (by omega)
        by_cases h0 : m = 0
        · subst h0
          have : l = [] := List.eq_nil_of_length_eq_zero (by omega)
          subst this
          exact mkG (Then.virtual hh hn1 true e) ⟨none, 0, rfl, Nat.le_refl _, .inl ⟨by simp [Cx.put], rfl⟩⟩ (run_append_noop ht hi hs (Nat.le_refl _))
        · have hrun := run_append_grow_src c.w t tx ty e i z ht hi hz none 0 0 [] (by simp [Builtin.firstCells]) v m news hs (by omega) (b63 _ (by simpa using hb)) (growslice_fits (by omega) (by simpa using hb))
          rw [Nat.zero_add] at hrun
          have T0 := Then.drew hh nb
          have T := Then.alloc (c := ⟨c.w.drew, c.B, c.φ, c.σ, c.X, c.Y⟩) T0.hr hn1 (([] ++ news).toArray ++ Builtin.zeroCells z.cells (grownCap c.w m 0 e - m)) e l (by simp; omega) (fun j a hj => by
            obtain ⟨u, e1, e2, e3⟩ := (VRl_iff.1 hl).2 j a hj
            refine ⟨u, ?_, e2, e3.mono T0.grow T0.names⟩
            have : j < news.length := by rw [List.getElem?_eq_some_iff] at e1; exact e1.1
            rw [Array.getElem?_append_left (by simpa using this)]
            simpa using e1) true
          refine ⟨_, _, hrun, ⟨_, _, rfl, grownCap_ge c.w m 0 e, .inr ⟨c.w.heap.size, by simp [Cx.put], rfl, _, e, (0, 0), heap_new _ _, ?_⟩⟩, (T0.trans T)⟩
          have := grownCap_ge c.w m 0 e
          simp only [Array.size_append, List.size_toArray, List.nil_append, zeroCells_size, hzs, Nat.zero_add] at *
          rw [hnl, ← Nat.add_mul]
          have : m + (grownCap c.w m 0 e - m) = grownCap c.w m 0 e := by omega
          rw [this]
          exact Nat.le_refl _
      · exact Gives.fail
    · rename_i h0; cases h0
    · exact Gives.fail
  | os id off n sz' =>
    unfold appA
    split
    · rename_i h0; cases h0
    · rename_i h0
      cases h0
      obtain ⟨A, k, rfl, hnk, hA⟩ := h
      refine Gives.look fun hh o ho => ?_
      obtain ⟨y, e', cells⟩ := o
      simp only
      split
      · rename_i hcnd
        obtain ⟨rfl, rfl, hcl, hb⟩ := hcnd
        intro r R W hr _ hn
        simp [AM.run] at hr
        obtain ⟨rfl, rfl, rfl⟩ := hr
        have hn1 := (hn nb (Nat.le_refl _)).resolve_right (by omega)
        have hne : id ≠ nb := by
          intro e1
          rw [e1, hh.noRow hn1] at ho
          cases ho
        by_cases hroom : n + m ≤ k
        · by_cases hk0 : k = 0
          · obtain ⟨rfl, rfl, rfl⟩ : n = 0 ∧ m = 0 ∧ k = 0 := by omega
            have h1 : l = [] := List.eq_nil_of_length_eq_zero (by omega)
            have h2 : cells = [] := List.eq_nil_of_length_eq_zero (by omega)
            subst h1; subst h2
            have T1 := Then.drop hh nb id
            have T2 := Then.virtual T1.hr (nb := nb) hn1 y e'
            exact mkG (T1.trans T2) ⟨A, 0, rfl, Nat.le_refl _, .inl ⟨by simp [Cx.put], rfl⟩⟩ (run_append_noop ht hi hs (Nat.le_refl _))
          · rcases hA with ⟨_, h1⟩ | ⟨b, hφ, rfl, cs, e2, f2, hcs, hsz⟩
            · exact absurd h1 hk0
            · obtain ⟨cs', hb', hle, hcells, _⟩ := hh.cells ho hφ
              rw [hcs] at hb'
              cases hb'
              have hmul : (n + m) * i.size ≤ k * i.size := Nat.mul_le_mul_right _ hroom
              rw [Nat.add_mul] at hmul
              have hin : ∀ j, j < news.length → ∃ u, c.w.cell? ⟨b, 0 + n * i.size + j, none⟩ = some u := fun j hj => by
                have hlt : 0 + n * i.size + j < cs.size := by omega
                exact ⟨cs[0 + n * i.size + j], by simp [World.cell?, hcs, hlt]⟩
              have hrun := run_append_room_src c.w t tx ty e' i ht hi b 0 n k v m news hs hroom (fun j hj => by obtain ⟨u, hu⟩ := hin j hj; rw [hu]; rfl) (fun j _ => by simp [World.frozen?, hcs])
              have T1 := Then.store hh nb ho hφ hcs (0 + n * i.size) news (cells' := cells ++ l) (by omega) (by simp; omega) (fun j a hj => by
                rw [setA_get _ _ _ _ (by omega)]
                rw [List.getElem?_append] at hj
                split at hj
                · rw [if_neg (by omega)]; exact hcells j a hj
                · rename_i hj2
                  have hj3 : j - cells.length < l.length := by rw [List.getElem?_eq_some_iff] at hj; exact hj.1
                  rw [if_pos (by omega), show j - (0 + n * i.size) = j - cells.length from by omega]
                  exact (VRl_iff.1 hl).2 _ _ hj)
              have T2 := Then.rename T1.hr (nb := nb) hn1 hne (by simp [app]; exact ⟨rfl, rfl, rfl⟩) hφ
              refine ⟨_, _, hrun, ⟨_, k, rfl, hroom, .inr ⟨b, by simp [Cx.put], rfl, setA cs (0 + n * i.size) news, e', (0, 0), setCells_heap _ _ _ _ hcs, by rw [setA_size]; exact hsz⟩⟩, (T1.trans T2).eqW ?_⟩
              funext q
              simp only [app, List.cons_append, List.nil_append]
              by_cases q1 : q = nb <;> by_cases q2 : q = id <;> simp [q1, q2]
        · have hold : ∃ olds : List Value, (Builtin.firstCells i.size n (.slice A n k)).run P c.w.drew = .ok olds.toArray c.w.drew ∧ olds.length = n * i.size ∧ ∀ (j : Nat) a, cells[j]? = some a → ∃ u, olds[j]? = some u ∧ u.oneCell' = true ∧ VR c a u := by
            by_cases h0 : n = 0
            · subst h0
              have h2 : cells = [] := List.eq_nil_of_length_eq_zero (by omega)
              subst h2
              exact ⟨[], by cases A <;> simp [Builtin.firstCells, loadCells, loadCellsFrom], by simp, fun j a hj => by simp at hj⟩
            · rcases hA with ⟨_, h1⟩ | ⟨b, hφ, rfl, _⟩
              · omega
              · obtain ⟨cs, _, _, _, hm⟩ := hh.cells ho hφ
                obtain ⟨us, e1, e2, e3⟩ := range_list (c := c) (b := b) (off := 0) (l := cells) hm
                exact ⟨us, run_firstCells_some c.w.drew i.size n ⟨b, 0, none⟩ n k us (by omega) (fun j u hu => by rw [Addr.add_mid]; simpa using e2 j u hu), by omega, (VRl_iff.1 e3).2⟩
          obtain ⟨olds, hold, hol, hov⟩ := hold
          have hrun := run_append_grow_src c.w t tx ty e' i z ht hi hz A n k olds hold v m news hs (by omega) (b63 _ hb) (growslice_fits (by omega) hb)
          have T0 := Then.drew hh nb
          have T := Then.alloc (c := ⟨c.w.drew, c.B, c.φ, c.σ, c.X, c.Y⟩) T0.hr hn1 ((olds ++ news).toArray ++ Builtin.zeroCells z.cells (grownCap c.w (n + m) k e' - (n + m))) e' (cells ++ l) (by simp; omega) (fun j a hj => by
            rw [List.getElem?_append] at hj
            split at hj
            · obtain ⟨u, e1, e2, e3⟩ := hov j a hj
              refine ⟨u, ?_, e2, e3.mono T0.grow T0.names⟩
              rw [Array.getElem?_append_left (by simp; omega)]
              simp only [List.getElem?_toArray]
              rw [List.getElem?_append_left (by omega)]; exact e1
            · rename_i hj2
              obtain ⟨u, e1, e2, e3⟩ := (VRl_iff.1 hl).2 _ a hj
              refine ⟨u, ?_, e2, e3.mono T0.grow T0.names⟩
              have h9 : j - cells.length < news.length := by rw [List.getElem?_eq_some_iff] at e1; exact e1.1
              rw [Array.getElem?_append_left (by simp; omega)]
              simp only [List.getElem?_toArray]
              rw [List.getElem?_append_right (by omega), show j - olds.length = j - cells.length from by omega]; exact e1) y
          have T2 := Then.drop T.hr nb id
          refine ⟨_, _, hrun, ⟨_, _, rfl, grownCap_ge _ _ _ _, .inr ⟨c.w.heap.size, by simp [Cx.put], rfl, _, e', (0, 0), heap_new _ _, ?_⟩⟩, ((T0.trans T).trans T2).eqW ?_⟩
          · have := grownCap_ge c.w (n + m) k e'
            simp only [Array.size_append, List.size_toArray, List.length_append, zeroCells_size, hzs, Nat.zero_add] at *
            rw [hol, hnl, ← Nat.add_mul, ← Nat.add_mul]
            have : n + m + (grownCap c.w (n + m) k e' - (n + m)) = grownCap c.w (n + m) k e' := by omega
            rw [this]
            exact Nat.le_refl _
          · funext q
            simp only [app, List.cons_append, List.nil_append]
            by_cases q1 : q = nb <;> by_cases q2 : q = id <;> simp [q1, q2]
            · exact absurd (q2.symm.trans q1) hne
            · intro h9; exact absurd h9.symm hne
            · intro h9; exact absurd h9 hne
      · exact Gives.fail
    · exact Gives.fail
  | _ => exact Gives.fail
end Go.Proofs.YtdenddhdeloceaaGreatDoor
namespace Go.Proofs.YtdenddhdeloceaaGreatDoor
open Go.RowKit
variable {P : Program} {c : Cx} {nb : Nat}

theorem g_foff {s : TypeId} {fs : Array Field} {f : Field} {i : TypeInfo} {k : Nat} (hu : P.underlying s = some (.struct fs)) (hf : fs[k]? = some f) (hi : P.info? f.type = some i) (h0 : i.size ≠ 0) {a : AV} {u : Value} (h : VR c a u) :
    Gives P (Instr.fieldAt s u k) c (foffA f.offset a) nb := by
  cases a with
  | op id off =>
    obtain ⟨b, hφ, rfl⟩ := h
    exact Gives.pure (v := .pointer (some ⟨b, off + f.offset, none⟩)) (by simp [Instr.fieldAt, run_underlying hu, hf, Instr.sureAddr, fieldPlace, sizeOf, typeInfo, hi, h0, Addr.add_mid]) ⟨b, hφ, rfl⟩
  | fp fr cs off =>
    obtain ⟨b, o, rfl, h1, h2, h3⟩ := h
    exact Gives.pure (v := .pointer (some ⟨b, o + (off + f.offset), none⟩)) (by simp [Instr.fieldAt, run_underlying hu, hf, Instr.sureAddr, fieldPlace, sizeOf, typeInfo, hi, h0, Addr.add_mid, Nat.add_assoc]) ⟨b, o, rfl, h1, h2, h3⟩
  | _ => exact Gives.fail
theorem g_idx {t e : TypeId} {j : TypeInfo} (hu : P.underlying t = some (.slice e)) (hj : P.info? e = some j) {a x : AV} {u v : Value} (h : VR c a u) (hx : VR c x v) :
    Gives P (Instr.indexAt t u v) c (idxA j.size a x) nb := by
  cases x with
  | v x =>
    have e0 : v = x := hx
    subst e0
    cases v with
    | int k i =>
      cases a with
      | fs fr cs n =>
        simp only [idxA]
        split
        · rename_i hh
          obtain ⟨A, k', rfl, _, hm⟩ := h
          obtain ⟨b, off, rfl, h1, h2, h3⟩ := hm (by omega)
          exact Gives.pure (v := .pointer (some ⟨b, off + i.toNat * j.size, none⟩)) (by simp [Instr.indexAt, asIntOf, run_underlying hu, hh, sizeOf, typeInfo, hj, Addr.add_mid]) ⟨b, off, rfl, h1, h2, h3⟩
        · exact Gives.fail
      | os id off n sz =>
        simp only [idxA]
        split
        · rename_i hh
          obtain ⟨A, k', rfl, hk, hm⟩ := h
          rcases hm with ⟨_, h1⟩ | ⟨b, hφ, rfl, _⟩
          · omega
          · exact Gives.pure (v := .pointer (some ⟨b, off + i.toNat * j.size, none⟩)) (by simp [Instr.indexAt, asIntOf, run_underlying hu, hh, sizeOf, typeInfo, hj, Addr.add_mid]) ⟨b, hφ, rfl⟩
        · exact Gives.fail
      | ws k n =>
        simp only [idxA]
        split
        · rename_i hh
          obtain ⟨h1, h2, h3⟩ := hh
          obtain ⟨A, k', rfl, hk, hm⟩ := h
          obtain ⟨b, off, rfl, hX, hT, hY, hkk, sz, hty, hle⟩ := hm (by omega)
          exact Gives.pure (v := .pointer (some ⟨b, off + i.toNat * j.size, none⟩)) (by simp [Instr.indexAt, asIntOf, run_underlying hu, h2, h3, sizeOf, typeInfo, hj, Addr.add_mid]) ⟨b, off + i.toNat * j.size, rfl, hX, hT, hY, hkk, sz, hty, by rw [h1]; omega⟩
        · exact Gives.fail
      | _ => exact Gives.fail
    | _ => exact Gives.fail
  | _ => exact Gives.fail
theorem g_fld {s : TypeId} {fs : Array Field} {f : Field} {i : TypeInfo} {d : TypeDesc} {k : Nat} (hu : P.underlying s = some (.struct fs)) (hf : fs[k]? = some f) (hi : P.info? f.type = some i) (hd : P.underlying f.type = some d) {a : AV} {u : Value} (h : VR c a u) :
    Gives P (Instr.field s u k) c (fldA d.isRow f.offset i.size a) nb := by
  cases a with
  | agg l =>
    obtain ⟨us, rfl, hl⟩ := h
    rw [VRl_iff] at hl
    simp only [fldA, ldA]
    have hrun : ∀ w, (Instr.field s (.agg us.toArray) k).run P w = (part f.type us.toArray f.offset).run P w := fun w => by simp [Instr.field, run_underlying hu, hf, asAgg]
    cases hr : d.isRow with
    | true =>
      rw [if_pos rfl]
      split
      · rename_i l' hl'
        obtain ⟨e1, e2⟩ := getN_spec hl'
        have hle : f.offset + i.size ≤ us.length ∨ i.size = 0 := by
          by_cases h0 : i.size = 0
          · exact .inr h0
          · have := e2 (i.size - 1) (l'[i.size - 1]'(by omega)) (List.getElem?_eq_getElem (by omega))
            rw [List.getElem?_eq_some_iff] at this
            left; have := this.1; omega
        refine Gives.pure (v := .agg (us.toArray.extract f.offset (f.offset + i.size))) (by rw [hrun]; simp [part, run_isAgg hd, hr, sizeOf, typeInfo, hi]) ⟨(us.drop f.offset).take i.size, ?_, ?_⟩
        · congr 1
          apply Array.ext'
          simp
        · rw [VRl_iff]
          refine ⟨by simp; omega, fun j a hj => ?_⟩
          have hjl : j < i.size := by rw [List.getElem?_eq_some_iff] at hj; have := hj.1; omega
          obtain ⟨u, e3, e4, e5⟩ := hl.2 _ _ (e2 j a hj)
          exact ⟨u, by rw [List.getElem?_take, if_pos hjl, List.getElem?_drop]; exact e3, e4, e5⟩
      · exact Gives.fail
    | false =>
      rw [if_neg (by decide)]
      split
      · rename_i x hx
        obtain ⟨u, e1, e2, e3⟩ := hl.2 _ _ hx
        exact Gives.pure (v := u) (by rw [hrun]; simp [part, run_isAgg hd, hr, e1]) e3
      · exact Gives.fail
  | _ => exact Gives.fail
theorem run_lohi {lo hi : Option AV} {vlo vhi : Option Value} {n k l h : Nat} (hlo : ∀ a, lo = some a → ∃ u, vlo = some u ∧ VR c a u) (hlo0 : lo = none → vlo = none) (hhi : ∀ a, hi = some a → ∃ u, vhi = some u ∧ VR c a u) (hhi0 : hi = none → vhi = none) (hnk : n ≤ k)
    (hl : lohi n lo hi = some (l, h)) (w : World) : (Instr.sliceBounds true n k vlo vhi none).run P w = .ok (l, h, k) w ∧ l ≤ h ∧ h ≤ n := by
  unfold lohi at hl
  split at hl
  · rw [hlo0 rfl, hhi0 rfl]
    simp at hl; obtain ⟨rfl, rfl⟩ := hl
    exact ⟨by simp [Instr.sliceBounds], by omega, by omega⟩
  · rename_i kk i
    split at hl
    · rename_i hh
      simp at hl; obtain ⟨rfl, rfl⟩ := hl
      obtain ⟨u, rfl, e⟩ := hlo _ rfl
      have e' : u = _ := e
      rw [hhi0 rfl, e']
      exact ⟨by simp [Instr.sliceBounds, Instr.sliceBound, asIntOf, hh], by omega, by omega⟩
    · cases hl
  · rename_i kk i
    split at hl
    · rename_i hh
      simp at hl; obtain ⟨rfl, rfl⟩ := hl
      obtain ⟨u, rfl, e⟩ := hhi _ rfl
      have e' : u = _ := e
      rw [hlo0 rfl, e']
      exact ⟨by simp [Instr.sliceBounds, Instr.sliceBound, asIntOf, hh, show i ≤ (k : Int) by omega], by omega, by omega⟩
    · cases hl
  · rename_i k1 i1 k2 i2
    split at hl
    · rename_i hh
      simp at hl; obtain ⟨rfl, rfl⟩ := hl
      obtain ⟨u, rfl, e⟩ := hlo _ rfl
      obtain ⟨u2, rfl, e2⟩ := hhi _ rfl
      have e' : u = _ := e
      have e2' : u2 = _ := e2
      rw [e', e2']
      exact ⟨by simp [Instr.sliceBounds, Instr.sliceBound, asIntOf, hh, show i2 ≤ (k : Int) by omega, show (0 : Int) ≤ i2 by omega, show (0 : Int) ≤ i1 by omega]; intro h9; exfalso; omega, by omega, by omega⟩
    · cases hl
  · cases hl
theorem g_slice {t e : TypeId} {j : TypeInfo} (hu : P.underlying t = some (.slice e)) (hj : P.info? e = some j) {a : AV} {u : Value} (h : VR c a u) {lo hi : Option AV} {vlo vhi : Option Value}
    (hlo : ∀ a, lo = some a → ∃ u, vlo = some u ∧ VR c a u) (hlo0 : lo = none → vlo = none) (hhi : ∀ a, hi = some a → ∃ u, vhi = some u ∧ VR c a u) (hhi0 : hi = none → vhi = none) :
    Gives P (Instr.sliceAt t u vlo vhi none) c (sliceA j.size a lo hi) nb := by
  have hrun : ∀ A n k l h w, (Instr.sliceBounds true n k vlo vhi none).run P w = .ok (l, h, k) w → (Instr.sliceAt t (.slice A n k) vlo vhi none).run P w = .ok (.slice (if k = l then A else A.map (·.add (l * j.size))) (h - l) (k - l)) w := by
    intro A n k l h w hb
    simp [Instr.sliceAt, Instr.slice, run_underlying hu, hb, sizeOf, typeInfo, hj]
  cases a with
  | fs fr cs n =>
    obtain ⟨A, k, rfl, hnk, hm⟩ := h
    simp only [sliceA]
    split
    · rename_i l h' hl
      obtain ⟨h1, h2, h3⟩ := run_lohi (P := P) hlo hlo0 hhi hhi0 hnk hl c.w
      refine Gives.pure (hrun A n k l h' c.w h1) ⟨_, _, rfl, by omega, fun h0 => ?_⟩
      obtain ⟨b, off, rfl, e1, e2, e3⟩ := hm (by omega)
      rw [VRm_iff] at e3
      refine ⟨b, off + l * j.size, by rw [if_neg (by omega)]; simp [Addr.add_mid], e1, e2, VRm_iff.2 fun q a hq => ?_⟩
      rw [List.getElem?_take] at hq
      split at hq
      · rw [List.getElem?_drop] at hq
        have := e3 _ _ hq
        rwa [← Nat.add_assoc] at this
      · cases hq
    · exact Gives.fail
  | os id off n sz =>
    obtain ⟨A, k, rfl, hnk, hm⟩ := h
    simp only [sliceA]
    split
    · rename_i l h' hl
      split
      · rename_i hsz
        subst hsz
        obtain ⟨h1, h2, h3⟩ := run_lohi (P := P) hlo hlo0 hhi hhi0 hnk hl c.w
        refine Gives.pure (hrun A n k l h' c.w h1) ⟨_, _, rfl, by omega, ?_⟩
        rcases hm with ⟨e1, e2⟩ | ⟨b, e1, rfl, cs, ee, ff, e2, e3⟩
        · exact .inl ⟨e1, by omega⟩
        · by_cases hkl : k = l
          · exact .inl ⟨by rw [e1]; simp, by omega⟩
          · refine .inr ⟨b, e1, by rw [if_neg hkl]; simp [Addr.add_mid], cs, ee, ff, e2, ?_⟩
            have : l * j.size + (k - l) * j.size = k * j.size := by rw [← Nat.add_mul]; congr 1; omega
            omega
      · exact Gives.fail
    · exact Gives.fail
  | v x =>
    have e0 : u = x := h
    subst e0
    unfold sliceA
    split
    · rename_i h0; cases h0
    · rename_i h0; cases h0
    · rename_i h0
      cases h0
      split
      · rename_i l h' hl
        obtain ⟨h1, h2, h3⟩ := run_lohi (P := P) (n := 0) (k := 0) hlo hlo0 hhi hhi0 (Nat.le_refl _) hl c.w
        have e1 : l = 0 := by omega
        have e2 : h' = 0 := by omega
        subst e1; subst e2
        have := hrun none 0 0 0 0 c.w h1
        exact Gives.pure (by simpa using this) rfl
      · exact Gives.fail
    · exact Gives.fail
  | _ => exact Gives.fail
theorem flatten_get {z : List AV} : ∀ {n : Nat} {q : Nat} {a : AV}, (List.replicate n z).flatten[q]? = some a → q < n * z.length ∧ z[q % z.length]? = some a
  | 0, q, a, h => by simp at h
  | n + 1, q, a, h => by
    rw [List.replicate_succ, List.flatten_cons, List.getElem?_append] at h
    split at h
    · rename_i hlt
      refine ⟨by rw [Nat.add_mul]; omega, by rw [Nat.mod_eq_of_lt hlt]; exact h⟩
    · rename_i hge
      obtain ⟨h1, h2⟩ := flatten_get h
      refine ⟨by rw [Nat.add_mul]; omega, ?_⟩
      rw [Nat.mod_eq_sub_mod (by omega)]; exact h2
theorem flatten_len {z : List AV} {n : Nat} : ((List.replicate n z).flatten).length = n * z.length := by simp
theorem g_mksl {t e : TypeId} {j : TypeInfo} {z : Value} (hu : P.underlying t = some (.slice e)) (hj : P.info? e = some j) (hz : j.zero = some z) (hzs : z.cells.size = j.size) (h1 : z.cells.toList.all (·.oneCell') = true)
    {a x : AV} {u v : Value} (h : VR c a u) (hx : VR c x v) : Gives P (Instr.makeSlice t u v) c (mkslA nb e j.size j.bytes z.cells.toList a x) nb := by
  cases a with
  | v a =>
    have e0 : u = a := h
    subst e0
    cases u with
    | int ka i =>
      cases x with
      | v x =>
        have e0 : v = x := hx
        subst e0
        cases v with
        | int kx jj =>
          simp only [mkslA]
          split
          · rename_i hh
            intro r R W hr hH hn
            simp [AM.run] at hr
            obtain ⟨rfl, rfl, rfl⟩ := hr
            have hn1 := (hn nb (Nat.le_refl _)).resolve_right (by omega)
            have hrun := run_make (P := P) c.w t e j z hu hj hz ka kx i jj hh.1 hh.2.1 hh.2.2.1 hh.2.2.2
            have hle : i.toNat * j.size ≤ jj.toNat * j.size := Nat.mul_le_mul_right _ (by omega)
            have T := Then.alloc hH hn1 (madeCells z.cells (jj.toNat * j.size)) e ((List.replicate i.toNat (z.cells.toList.map .v)).flatten) (by rw [flatten_len, size_madeCells]; simp [hzs]; exact hle) (fun q a hq => by
              obtain ⟨f1, f2⟩ := flatten_get hq
              rw [List.length_map, Array.length_toList, hzs] at f1 f2
              rw [List.getElem?_map, Option.map_eq_some_iff] at f2
              obtain ⟨y, hy, rfl⟩ := f2
              refine ⟨y, ?_, List.all_eq_true.1 h1 y (List.mem_of_getElem? hy), rfl⟩
              have hpos : 0 < z.cells.size := by rw [hzs]; rcases Nat.eq_zero_or_pos j.size with h0 | h0; · rw [h0] at f1; omega
                                                 · exact h0
              have hq2 : q % z.cells.size < z.cells.size := Nat.mod_lt _ hpos
              have hqn : q < jj.toNat * j.size := by omega
              simp only [madeCells, Array.getElem?_map, Array.getElem?_range, hqn, if_true, Option.map_some]
              rw [getElem!_pos z.cells _ hq2]
              rw [← hzs] at hy
              rw [Array.getElem?_toList, Array.getElem?_eq_getElem hq2] at hy
              exact hy) true
            refine mkG T ⟨_, _, rfl, by omega, .inr ⟨c.w.heap.size, by simp [Cx.put], rfl, madeCells z.cells (jj.toNat * j.size), e, (0, 0), heap_new _ _, by rw [size_madeCells]; omega⟩⟩ hrun
          · exact Gives.fail
        | _ => exact Gives.fail
      | _ => exact Gives.fail
    | _ => exact Gives.fail
  | _ => exact Gives.fail
theorem g_bin {op : BinOp} {t : TypeId} {x y : Operand} {a b : AV} {u v : Value} (h : VR c a u) (h' : VR c b v) :
    Gives P (do eqGuard op t x y u v; binOp op t u v) c (binA op a b) nb := by
  cases a with
  | v p =>
    cases b with
    | v q =>
      have e1 : u = p := h
      have e2 : v = q := h'
      subst e1; subst e2
      simp only [binA]
      split
      · rename_i r hr
        have hbq : ∀ a b : Int, (a == b) = decide (a = b) := fun a b => by rw [Bool.eq_iff_iff]; simp
        have hnq : ∀ a b : Int, (a != b) = !decide (a = b) := fun a b => by rw [bne, hbq]
        have key : (do eqGuard op t x y u v; binOp op t u v : Sem Value).run P c.w = .ok r c.w := by
          cases u with
          | int k i =>
            cases v with
            | int k' i' =>
              simp only [binVal] at hr
              split at hr
              · rename_i hs
                cases op <;> simp [isSh] at hs <;> simp [shVal] at hr <;> (obtain ⟨h1, rfl⟩ := hr; simp [eqGuard, binOp, Op.shift, show ¬ i' < 0 from by omega])
              · rename_i hs
                split at hr
                · rename_i hk
                  subst hk
                  cases op <;> simp [isSh] at hs <;> simp [intVal] at hr <;> first
                    | (obtain ⟨h1, rfl⟩ := hr; simp [eqGuard, binOp, Op.intDiv, h1]; done)
                    | (subst hr; simp [eqGuard, binOp, Op.intArith, Op.intBits, Op.intCmp, hbq, hnq]; done)
                · cases hr
            | _ => simp [binVal] at hr
          | string s =>
            cases v with
            | string s' =>
              simp only [binVal] at hr
              have hbe : (s.toList == s'.toList) = decide (s = s') := by
                rw [Bool.eq_iff_iff]
                simp
                constructor
                · intro h9
                  rw [ByteArray.toList_eq, ByteArray.toList_eq] at h9
                  exact ByteArray.ext (Array.ext' h9)
                · intro h9; rw [h9]
              cases op <;> simp [strOp] at hr <;> first
                | (subst hr; simp [eqGuard, binOp, Op.stringOp, hbe]; done)
                | (obtain ⟨h1, rfl⟩ := hr; simp [eqGuard, binOp, Op.stringOp]; omega)
            | _ => simp [binVal] at hr
          | _ => simp [binVal] at hr
        exact Gives.pure key rfl
      · exact Gives.fail
    | _ => exact Gives.fail
  | wv k =>
    cases k with
    | u8 =>
      cases b with
      | v q =>
        have e2 : v = q := h'
        subst e2
        cases v with
        | int k' i' =>
          cases k' with
          | u8 =>
            simp only [binA]
            split
            · rename_i hh
              obtain ⟨n, rfl⟩ := h
              cases op <;> simp [isXor] at hh
              exact Gives.pure (v := .int .u8 (IntKind.u8.wrap (BitVec.ofInt IntKind.u8.bits n ^^^ BitVec.ofInt IntKind.u8.bits i').toNat)) (by simp [eqGuard, binOp, Op.intArith, Op.intBits]) ⟨_, rfl⟩
            · exact Gives.fail
          | _ => exact Gives.fail
        | _ => exact Gives.fail
      | _ => exact Gives.fail
    | _ => exact Gives.fail
  | _ => exact Gives.fail
theorem g_beq {op : BinOp} {neg : Bool} (ho : op = .eql ∧ neg = false ∨ op = .neq ∧ neg = true) {t : TypeId} (hu : P.underlying t = some .bool) {x y : Operand} {a b : AV} {u v : Value} (h : VR c a u) (h' : VR c b v) :
    Gives P (do eqGuard op t x y u v; binOp op t u v) c (beqA neg a b) nb := by
  cases a with
  | v p =>
    have e1 : u = p := h
    subst e1
    cases u with
    | bool p =>
      cases b with
      | v q =>
        have e2 : v = q := h'
        subst e2
        cases v with
        | bool q =>
          refine Gives.pure (v := .bool (decide (p = q) != neg)) ?_ rfl
          rcases ho with ⟨rfl, rfl⟩ | ⟨rfl, rfl⟩ <;> cases p <;> cases q <;> simp [eqGuard, binOp, run_equal_bool (P := P) c.w t _ _ hu]
        | _ => exact Gives.fail
      | _ => exact Gives.fail
    | _ => exact Gives.fail
  | _ => exact Gives.fail
theorem eqL_int {ks : List Bool} {l q : List AV} {r : Bool} (he : eqL (true :: ks) l q = some r) : ∃ ka x l' y q' t, l = .v (.int ka x) :: l' ∧ q = .v (.int ka y) :: q' ∧ eqL ks l' q' = some t ∧ r = (decide (x = y) && t) := by
  cases l with
  | nil => simp [eqL] at he
  | cons a l =>
    cases a <;> try (simp [eqL] at he; done)
    rename_i z
    cases z <;> try (simp [eqL] at he; done)
    rename_i ka x
    cases q with
    | nil => simp [eqL] at he
    | cons a q =>
      cases a <;> try (simp [eqL] at he; done)
      rename_i z
      cases z <;> try (simp [eqL] at he; done)
      rename_i kb y
      simp only [eqL] at he
      split at he <;> try (cases he; done)
      rename_i hk
      subst hk
      split at he <;> try (cases he; done)
      rename_i t ht
      cases he
      exact ⟨_, _, _, _, _, t, rfl, rfl, ht, rfl⟩
theorem eqL_bool {ks : List Bool} {l q : List AV} {r : Bool} (he : eqL (false :: ks) l q = some r) : ∃ x l' y q' t, l = .v (.bool x) :: l' ∧ q = .v (.bool y) :: q' ∧ eqL ks l' q' = some t ∧ r = (decide (x = y) && t) := by
  cases l with
  | nil => simp [eqL] at he
  | cons a l =>
    cases a <;> try (simp [eqL] at he; done)
    rename_i z
    cases z <;> try (simp [eqL] at he; done)
    rename_i x
    cases q with
    | nil => simp [eqL] at he
    | cons a q =>
      cases a <;> try (simp [eqL] at he; done)
      rename_i z
      cases z <;> try (simp [eqL] at he; done)
      rename_i y
      simp only [eqL] at he
      split at he <;> try (cases he; done)
      rename_i t ht
      cases he
      exact ⟨_, _, _, _, t, rfl, rfl, ht, rfl⟩
theorem eqL_run {d : Nat} {us vs : Array Value} : ∀ {fs : List Field} {k : Nat} {ks : List Bool} {l q : List AV} {r : Bool} {w : World}, fldKinds P fs k = some ks → eqL ks l q = some r →
    (∀ (j : Nat) a, l[j]? = some a → ∃ u, us[k + j]? = some u ∧ VR c a u) → (∀ (j : Nat) a, q[j]? = some a → ∃ u, vs[k + j]? = some u ∧ VR c a u) → (Op.eqFields (d + 1) us vs fs).run P w = .ok r w
  | [], k, ks, l, q, r, w, hf, he, hu, hv => by
    simp [fldKinds] at hf
    subst hf
    cases l <;> cases q <;> simp [eqL] at he
    subst he
    simp [Op.eqFields]
  | f :: fs, k, ks, l, q, r, w, hf, he, hu, hv => by
    unfold fldKinds at hf
    split at hf
    · rename_i hn
      obtain ⟨hn1, hn2⟩ := hn
      have ih := fun (ks : List Bool) (l q : List AV) (r : Bool) (w : World) h1 h2 h3 h4 => eqL_run (d := d) (us := us) (vs := vs) (fs := fs) (k := k + 1) (ks := ks) (l := l) (q := q) (r := r) (w := w) h1 h2 h3 h4
      have tl : ∀ (us : Array Value) (a : AV) (l : List AV), (∀ (j : Nat) b, (a :: l)[j]? = some b → ∃ u, us[k + j]? = some u ∧ VR c b u) → (∃ u, us[k]? = some u ∧ VR c a u) ∧ ∀ (j : Nat) b, l[j]? = some b → ∃ u, us[k + 1 + j]? = some u ∧ VR c b u :=
        fun us a l h => ⟨h 0 a rfl, fun j b hj => by have := h (j + 1) b (by simpa using hj); rwa [Nat.add_assoc, Nat.add_comm 1 j]⟩
      split at hf
      · rename_i ik hty
        split at hf
        · rename_i ks' hks
          cases hf
          obtain ⟨ka, x, l', y, q', t, rfl, rfl, ht, rfl⟩ := eqL_int he
          · obtain ⟨⟨u, h1, h2⟩, h3⟩ := tl _ _ _ hu
            obtain ⟨⟨v, h4, h5⟩, h6⟩ := tl _ _ _ hv
            cases h2
            cases h5
            have p1 : ∀ w, (part f.type us f.offset).run P w = .ok (.int ka x) w := fun w => by simp [part, Sem.run_bind, run_isAgg hty, hn2, h1, TypeDesc.isRow]
            have p2 : ∀ w, (part f.type vs f.offset).run P w = .ok (.int ka y) w := fun w => by simp [part, Sem.run_bind, run_isAgg hty, hn2, h4, TypeDesc.isRow]
            have ih' := ih _ _ _ _ w hks ht h3 h6
            simp only [Op.eqFields, if_pos hn1, Sem.run_bind, p1, p2, run_equalIn_int _ _ _ _ _ _ _ hty, Result.andThen_ok]
            by_cases hxy : x = y
            · simp [hxy, ih']
            · simp [hxy]
        · cases hf
      · rename_i hty
        split at hf
        · rename_i ks' hks
          cases hf
          obtain ⟨x, l', y, q', t, rfl, rfl, ht, rfl⟩ := eqL_bool he
          · obtain ⟨⟨u, h1, h2⟩, h3⟩ := tl _ _ _ hu
            obtain ⟨⟨v, h4, h5⟩, h6⟩ := tl _ _ _ hv
            cases h2
            cases h5
            have p1 : ∀ w, (part f.type us f.offset).run P w = .ok (.bool x) w := fun w => by simp [part, Sem.run_bind, run_isAgg hty, hn2, h1, TypeDesc.isRow]
            have p2 : ∀ w, (part f.type vs f.offset).run P w = .ok (.bool y) w := fun w => by simp [part, Sem.run_bind, run_isAgg hty, hn2, h4, TypeDesc.isRow]
            have ih' := ih _ _ _ _ w hks ht h3 h6
            simp only [Op.eqFields, if_pos hn1, Sem.run_bind, p1, p2, run_equalIn_bool' _ _ _ _ _ hty, Result.andThen_ok]
            cases x <;> cases y <;> simp [ih']
        · cases hf
      · cases hf
    · cases hf
theorem g_eqs {op : BinOp} {neg : Bool} {t : TypeId} {x0 y0 x y : Operand} {ao : AO} (ho : op = .eql ∧ neg = false ∨ op = .neq ∧ neg = true) (hc : compEqs P neg t x y = some ao) {a b : AV} {u v : Value} (h : VR c a u) (h' : VR c b v) :
    ∃ ks, ao = .eqs neg ks x y ∧ Gives P (do eqGuard op t x0 y0 u v; binOp op t u v) c (eqsA neg ks a b) nb := by
  unfold compEqs at hc
  split at hc <;> try (cases hc; done)
  rename_i hg
  obtain ⟨hg1, hg2⟩ := hg
  split at hc <;> try (cases hc; done)
  rename_i fs hu
  split at hc <;> try (cases hc; done)
  rename_i ks hks
  cases hc
  refine ⟨ks, rfl, ?_⟩
  unfold eqsA
  cases a with
  | agg l =>
    cases b with
    | agg q =>
      simp only
      split
      · rename_i r hr
        obtain ⟨us, rfl, h⟩ := h
        obtain ⟨vs, rfl, h'⟩ := h'
        have hfo : P.fieldsOf t = fs := by simp [Program.fieldsOf, hu]
        have key : ∀ w, (Op.equalIn 10000 t (.agg us.toArray) (.agg vs.toArray)).run P w = .ok r w := fun w => by
          rw [run_equalIn_struct w 9999 t _ _ (by rw [hfo]; exact hu) hg1, hfo]
          exact eqL_run (c := c) (d := 9998) hks hr (fun j a hj => by obtain ⟨u, k1, _, k2⟩ := (VRl_iff.1 h).2 j a hj; exact ⟨u, by simpa using k1, k2⟩)
            (fun j a hj => by obtain ⟨u, k1, _, k2⟩ := (VRl_iff.1 h').2 j a hj; exact ⟨u, by simpa using k1, k2⟩)
        refine Gives.pure (v := .bool (r != neg)) ?_ rfl
        rcases ho with ⟨rfl, rfl⟩ | ⟨rfl, rfl⟩
        · rw [Sem.run_bind, run_eqGuard_agg _ _ _ _ _ _ _ hg2, Result.andThen_ok, run_eql_struct, key]; simp
        · rw [Sem.run_bind, run_eqGuard_agg _ _ _ _ _ _ _ hg2, Result.andThen_ok, run_neq_struct, key]; simp
      · exact Gives.fail
    | _ => exact Gives.fail
  | _ => exact Gives.fail
theorem run_equalIn_ptr_nil (w : World) (n : Nat) (t e : TypeId) (a : Option Addr) (h : P.underlying t = some (.pointer e)) : (Op.equalIn (n + 1) t (.pointer a) (.pointer none)).run P w = .ok a.isNone w := by
  cases a <;> simp [Op.equalIn, run_underlying h]
theorem run_equal_ptr_nil (w : World) (t e : TypeId) (a : Option Addr) (h : P.underlying t = some (.pointer e)) : (Op.equal t (.pointer a) (.pointer none)).run P w = .ok a.isNone w := run_equalIn_ptr_nil w 9999 t e a h
theorem run_equalIn_if_nil (w : World) (n : Nat) (t : TypeId) (ms : Array (String × TypeId)) (h : P.underlying t = some (.interface ms)) : (Op.equalIn (n + 1) t .nilIface .nilIface).run P w = .ok true w := by simp [Op.equalIn, run_underlying h]
theorem run_equal_if_nil (w : World) (t : TypeId) (ms : Array (String × TypeId)) (h : P.underlying t = some (.interface ms)) : (Op.equal t .nilIface .nilIface).run P w = .ok true w := run_equalIn_if_nil w 9999 t ms h
theorem run_equalIn_if_some (w : World) (n : Nat) (t u : TypeId) (v : Value) (ms : Array (String × TypeId)) (h : P.underlying t = some (.interface ms)) : (Op.equalIn (n + 1) t (.iface u v) .nilIface).run P w = .ok false w := by simp [Op.equalIn, run_underlying h]
theorem run_equal_if_some (w : World) (t u : TypeId) (v : Value) (ms : Array (String × TypeId)) (h : P.underlying t = some (.interface ms)) : (Op.equal t (.iface u v) .nilIface).run P w = .ok false w := run_equalIn_if_some w 9999 t u v ms h
theorem g_isnil {op : BinOp} {neg : Bool} (ho : op = .eql ∧ neg = false ∨ op = .neq ∧ neg = true) {t : TypeId} {v : Value} (hd : ((∃ e, P.underlying t = some (.slice e)) ∧ v = .slice none 0 0) ∨ (∃ e, P.underlying t = some (.pointer e)) ∧ v = .pointer none ∨ (∃ e, P.underlying t = some (.interface e)) ∧ v = .nilIface)
    {x y : Operand} {a : AV} {u : Value} (hy : y = .const v) (h : VR c a u) :
    Gives P (do eqGuard op t x y u v; binOp op t u v) c (isnilA neg v a) nb := by
  have sl : ∀ (A : Option Addr) (n k : Nat), (∃ e, P.underlying t = some (.slice e)) → (do eqGuard op t x y (.slice A n k) (.slice none 0 0); binOp op t (.slice A n k) (.slice none 0 0) : Sem Value).run P c.w = .ok (.bool (A.isNone != neg)) c.w := by
    rintro A n k ⟨e, he⟩
    have := run_equal_slice_nil (P := P) c.w t e A n k he
    rcases ho with ⟨rfl, rfl⟩ | ⟨rfl, rfl⟩ <;> simp [eqGuard, binOp, this]
  have pt : ∀ (A : Option Addr), (∃ e, P.underlying t = some (.pointer e)) → (do eqGuard op t x y (.pointer A) (.pointer none); binOp op t (.pointer A) (.pointer none) : Sem Value).run P c.w = .ok (.bool (A.isNone != neg)) c.w := by
    rintro A ⟨e, he⟩
    have := run_equal_ptr_nil (P := P) c.w t e A he
    rcases ho with ⟨rfl, rfl⟩ | ⟨rfl, rfl⟩ <;> cases A <;> simp [eqGuard, binOp, this]
  rcases hd with ⟨hd, rfl⟩ | ⟨hd, rfl⟩ | ⟨hd, rfl⟩
  · cases a with
    | v a =>
      have e1 : u = a := h
      subst e1
      cases u with
      | slice A n k => cases A with
        | none => exact Gives.pure (v := .bool (!neg)) (by simpa using sl none n k hd) rfl
        | some A => exact Gives.pure (v := .bool neg) (by simpa using sl (some A) n k hd) rfl
      | _ => exact Gives.fail
    | fs fr cs n =>
      simp only [isnilA]
      split
      · exact Gives.fail
      · rename_i h0
        obtain ⟨A, k, rfl, _, hm⟩ := h
        obtain ⟨b, off, rfl, _⟩ := hm h0
        exact Gives.pure (v := .bool neg) (by simpa using sl (some ⟨b, off, none⟩) n k hd) rfl
    | os id off n sz =>
      simp only [isnilA]
      split
      · exact Gives.fail
      · rename_i h0
        obtain ⟨A, k, rfl, hk, hm⟩ := h
        rcases hm with ⟨_, h1⟩ | ⟨b, _, rfl, _⟩
        · omega
        · exact Gives.pure (v := .bool neg) (by simpa using sl (some ⟨b, off, none⟩) n k hd) rfl
    | _ => exact Gives.fail
  · cases a with
    | v a =>
      have e1 : u = a := h
      subst e1
      cases u with
      | pointer A => cases A with
        | none => exact Gives.pure (v := .bool (!neg)) (by simpa using pt none hd) rfl
        | some A => exact Gives.fail
      | _ => exact Gives.fail
    | op id off => obtain ⟨b, _, rfl⟩ := h; exact Gives.pure (v := .bool neg) (by simpa using pt (some ⟨b, off, none⟩) hd) rfl
    | fp fr cs off => obtain ⟨b, o, rfl, _⟩ := h; exact Gives.pure (v := .bool neg) (by simpa using pt (some ⟨b, o + off, none⟩) hd) rfl
    | _ => exact Gives.fail
  · obtain ⟨ms, hu⟩ := hd
    cases a with
    | v a =>
      have e1 : u = a := h
      subst e1
      cases u with
      | nilIface =>
        refine Gives.pure (v := .bool (!neg)) ?_ rfl
        have hq := run_equal_if_nil (P := P) c.w t ms hu
        rcases ho with ⟨rfl, rfl⟩ | ⟨rfl, rfl⟩ <;> simp [eqGuard, binOp, hq, hy]
      | _ => exact Gives.fail
    | ifc tx x =>
      obtain ⟨q, rfl, _⟩ := h
      refine Gives.pure (v := .bool neg) ?_ rfl
      have hq := run_equal_if_some (P := P) c.w t tx q ms hu
      rcases ho with ⟨rfl, rfl⟩ | ⟨rfl, rfl⟩ <;> simp [eqGuard, binOp, hq]
    | _ => exact Gives.fail
theorem g_un {op : UnOp} {a : AV} {u : Value} (h : VR c a u) : Gives P (Op.unary op u) c (unA op a) nb := by
  cases a with
  | v a =>
    have e1 : u = a := h
    subst e1
    simp only [unA]
    split
    · rename_i r hr
      refine Gives.pure (v := r) ?_ rfl
      cases u <;> cases op <;> simp [unVal] at hr <;> subst hr <;> simp [Op.unary, Op.intArith, Op.intBits]
    · exact Gives.fail
  | wv k =>
    cases k with
    | bl =>
      simp only [unA]
      split
      · rename_i hh
        obtain ⟨q, rfl⟩ := h
        cases op <;> simp [isNot] at hh
        exact Gives.pure (v := .bool (!q)) (by simp [Op.unary]) ⟨_, rfl⟩
      · exact Gives.fail
    | _ => exact Gives.fail
  | _ => exact Gives.fail
theorem g_conv {s d : TypeId} {k k' : IntKind} (hs : P.underlying s = some (.int k')) (hd : P.underlying d = some (.int k)) {a : AV} {u : Value} (h : VR c a u) : Gives P (convert s d u) c (convA k a) nb := by
  cases a with
  | v a =>
    have e1 : u = a := h
    subst e1
    cases u with
    | int k'' n => exact Gives.pure (v := .int k (k.wrap n)) (by simp [convert, run_underlying hs, run_underlying hd, Conv.intToInt]) rfl
    | _ => exact Gives.fail
  | _ => exact Gives.fail
theorem g_len {t ty : TypeId} {e : TypeId} (hu : P.underlying t = some (.slice e)) {a : AV} {u : Value} (h : VR c a u) : Gives P (Builtin.len_ #[t] ty #[u]) c (lenA a) nb := by
  cases a with
  | v a =>
    have e1 : u = a := h
    subst e1
    cases u with
    | slice A n k => exact Gives.pure (v := .int .i64 n) (by simp [Builtin.len_, run_underlying hu, goInt]) rfl
    | _ => exact Gives.fail
  | fs fr cs n => obtain ⟨A, k, rfl, _⟩ := h; exact Gives.pure (v := .int .i64 n) (by simp [Builtin.len_, run_underlying hu, goInt]) rfl
  | os id off n sz => obtain ⟨A, k, rfl, _⟩ := h; exact Gives.pure (v := .int .i64 n) (by simp [Builtin.len_, run_underlying hu, goInt]) rfl
  | ws q n => obtain ⟨A, k, rfl, _⟩ := h; exact Gives.pure (v := .int .i64 n) (by simp [Builtin.len_, run_underlying hu, goInt]) rfl
  | _ => exact Gives.fail
theorem g_slen {t ty : TypeId} (hu : P.underlying t = some .string) {a : AV} {u : Value} (h : VR c a u) : Gives P (Builtin.len_ #[t] ty #[u]) c (slenA a) nb := by
  cases a with
  | v a =>
    have e1 : u = a := h
    subst e1
    cases u with
    | string s => exact Gives.pure (v := .int .i64 s.size) (by simp [Builtin.len_, run_underlying hu, goInt]) rfl
    | _ => exact Gives.fail
  | _ => exact Gives.fail
theorem g_ext {i : Nat} {a : AV} {u : Value} (h : VR c a u) : Gives P (Instr.extract u i) c (extA i a) nb := by
  cases a with
  | tup l =>
    obtain ⟨us, rfl, hl⟩ := h
    simp only [extA]
    split
    · rename_i a ha
      obtain ⟨u, e1, e2⟩ := (VRt_iff.1 hl).2 _ _ ha
      exact Gives.pure (v := u) (by simp [Instr.extract, e1]) e2
    · exact Gives.fail
  | _ => exact Gives.fail

/-- What a run of a whole operation leaves. -/
def GivesN (P : Program) (s : Sem Next) (c : Cx) (am : AM) (nb : Nat) : Prop :=
  ∀ r R W, am.run c.σ = some (r, R, W) → HR c → (∀ id, nb ≤ id → c.φ id = none ∨ nb + 100000 ≤ id) → ∃ nx v d, s.run P c.w = .ok nx d.w ∧ (nx = .value v ∨ nx = .skip ∧ v = undef) ∧ VR d r v ∧ Then c nb W d
theorem GivesN.of {s : Sem Value} {am : AM} (h : Gives P s c am nb) : GivesN P (do pure (.value (← s))) c am nb := by
  intro r R W hr hh hn
  obtain ⟨v, d, h1, h2, h3⟩ := h r R W hr hh hn
  exact ⟨.value v, v, d, by simp [h1], .inl rfl, h2, h3⟩
theorem GivesN.skip {s : Sem Unit} {am : AM} (h : Gives P (do s; pure undef) c am nb) : GivesN P (do s; pure .skip) c am nb := by
  intro r R W hr hh hn
  obtain ⟨v, d, h1, h2, h3⟩ := h r R W hr hh hn
  simp only [Sem.run_bind, Sem.run_pure] at h1
  cases hs : s.run P c.w with
  | ok a w' =>
    rw [hs] at h1
    simp at h1
    obtain ⟨rfl, e⟩ := h1
    exact ⟨.skip, undef, d, by simp [hs, e], .inr ⟨rfl, rfl⟩, h2, h3⟩
  | halt q w' => rw [hs] at h1; simp at h1
theorem GivesN.fail {s : Sem Next} : GivesN P s c .fail nb := fun _ _ _ h => by cases h
theorem GivesN.value {s : Sem Next} {v : Value} {r : AV} (hs : ∀ w, s.run P w = .ok (.value v) w) (hv : VR c r v) : GivesN P s c (.ret r []) nb := by
  intro r' R W h hr _
  simp [AM.run] at h
  obtain ⟨rfl, rfl, rfl⟩ := h
  exact ⟨.value v, v, c, hs _, .inl rfl, hv, Then.refl hr nb⟩
theorem VRt_map {ρ : Operand → AV} {ev : Operand → Value} (hv : ∀ x, VR c (ρ x) (ev x)) : ∀ l : List Operand, VRt c (l.map ρ) (l.map ev)
  | [] => rfl
  | x :: l => ⟨ev x, l.map ev, rfl, hv x, VRt_map hv l⟩
theorem opt_map {ρ : Operand → AV} {ev : Operand → Value} (hv : ∀ x, VR c (ρ x) (ev x)) (o : Option Operand) : (∀ a, o.map ρ = some a → ∃ u, o.map ev = some u ∧ VR c a u) ∧ (o.map ρ = none → o.map ev = none) := by
  cases o with
  | none => simp
  | some x => exact ⟨fun a h => by simp at h; subst h; exact ⟨_, rfl, hv x⟩, fun h => by simp at h⟩
theorem isNilC_spec {d : TypeDesc} {y : Operand} {z : Value} (h : isNilC d y = some z) : y = .const z ∧ ((∃ e, d = .slice e) ∧ z = .slice none 0 0 ∨ (∃ e, d = .pointer e) ∧ z = .pointer none ∨ (∃ e, d = .interface e) ∧ z = .nilIface) := by
  unfold isNilC at h
  split at h <;> simp_all
end Go.Proofs.YtdenddhdeloceaaGreatDoor
namespace Go.Proofs.YtdenddhdeloceaaGreatDoor
open Go.RowKit
variable {P : Program} {c : Cx} {nb : Nat}
/-- a row's marks change; it is held no more -/
theorem Then.melt {c : Cx} (h : HR c) (nb : Nat) {id b : Nat} {y : Bool} {e : TypeId} {cells : List AV} {cs : Array Value} (hid : c.σ id = some (.row y e cells)) (hφ : c.φ id = some (some b))
    (hb : c.w.heap[b]? = some (.cells cs e (0, 0))) {w' : World} {f : Nat × Nat} (w1 : w'.heap[b]? = some (.cells cs e f)) (w2 : ∀ k, k ≠ b → w'.heap[k]? = c.w.heap[k]?) (w3 : w'.heap.size = c.w.heap.size)
    (w4 : w'.output = c.w.output) (w5 : w'.os = c.w.os) (w6 : w'.tape = c.w.tape) : Then c nb [(id, none)] ⟨w', c.B, c.φ, app c.σ [(id, none)], c.X, c.Y⟩ := by
  generalize hd : (⟨w', c.B, c.φ, app c.σ [(id, none)], c.X, c.Y⟩ : Cx) = d
  have dw : d.w = w' := by rw [← hd]
  have dφ : d.φ = c.φ := by rw [← hd]
  have dσ : ∀ k, d.σ k = if k = id then none else c.σ k := by rw [← hd]; intro k; rfl
  have dB : d.B = c.B := by rw [← hd]
  have dX : d.X = c.X := by rw [← hd]
  have dY : d.Y = c.Y := by rw [← hd]
  have hT : c.T b := ⟨id, _, hid, hφ⟩
  have g : Grow c d := by
    refine Still.grow ⟨dY, dX, dB, by rw [dw, w4], by rw [dw, w5], by rw [dw, w6], by rw [dw, w3]; exact Nat.le_refl _, fun k hk ht => by rw [dw]; exact w2 k (fun e1 => ht (by rw [e1]; exact hT)), ?_, fun k cs' e' f' hk => ?_⟩
    · rintro k ⟨i, ob, h1, h2⟩
      rw [dσ] at h1
      rw [dφ] at h2
      by_cases e1 : i = id
      · rw [if_pos e1] at h1; cases h1
      · rw [if_neg e1] at h1; exact .inl ⟨i, ob, h1, h2⟩
    · by_cases e1 : k = b
      · subst e1
        rw [hb] at hk
        cases hk
        exact ⟨_, _, by rw [dw]; exact w1, rfl⟩
      · exact ⟨cs', f', by rw [dw, w2 k e1]; exact hk, rfl⟩
  have n : Names c d := fun k x hk => by rw [dφ]; exact hk
  have live : ∀ k, d.σ k ≠ none → c.σ k ≠ none := fun k hk => by
    rw [dσ] at hk
    by_cases e1 : k = id
    · rw [e1, hid]; simp
    · rwa [if_neg e1] at hk
  refine ⟨g, n, ⟨fun k y' e' cl h1 => ?_, fun i i' b' h1 h2 h3 h4 => ?_, by rw [dB]; exact Nat.le_trans h.base g.size, fun b hb => by rw [dX] at hb; exact Nat.lt_of_lt_of_le (h.xlt b hb) g.size, h.gl.grow g⟩, by rw [← hd], fun k hk => by rw [dφ] at hk; exact .inl hk⟩
  · rw [dσ] at h1
    by_cases e1 : k = id
    · rw [if_pos e1] at h1; cases h1
    · rw [if_neg e1] at h1
      rcases h.row k y' e' cl h1 with ⟨h2, h3⟩ | ⟨b2, cs2, h2, h3, h4, h5, h6⟩
      · exact .inl ⟨n _ _ h2, h3⟩
      · have hne : b2 ≠ b := fun e2 => e1 (h.inj k id b (by rw [h1]; simp) (by rw [hid]; simp) (by rw [← e2]; exact h2) hφ)
        refine .inr ⟨b2, cs2, n _ _ h2, by rw [dw, w2 b2 hne]; exact h3, ⟨fun hy => by rw [dB]; exact h4.1 hy, by rw [dX]; exact h4.2⟩, h5, fun j a hj => ?_⟩
        obtain ⟨u, h7, h8, h9⟩ := h6 j a hj
        exact ⟨u, h7, h8, h9.mono g n⟩
  · rw [dφ] at h3 h4
    exact h.inj i i' b' (live i h1) (live i' h2) h3 h4
theorem run_rd {σ : Heap} {id : Nat} {k : AObj → AM} {r : AV} {R : List Nat} {W : List (Nat × Option AObj)} (h : (AM.rd id k).run σ = some (r, R, W)) : ∃ o R', σ id = some o ∧ (k o).run σ = some (r, R', W) := by
  rw [AM.run] at h
  split at h
  · rename_i o ho
    revert h
    cases hk : (k o).run σ with
    | none => intro h; simp at h
    | some q => obtain ⟨r', R', W'⟩ := q; intro h; simp at h; exact ⟨o, R', ho, by rw [hk, h.1, h.2.2]⟩
  · cases h
theorem g_sconv {s e : TypeId} (hs : P.underlying s = some (.slice e)) (he : P.underlying e = some (.int .u8)) {a : AV} {u : Value} (h : VR c a u) : Gives P (convert s s u) c (sconvA a) nb := by
  cases a with
  | os id off n sz =>
    intro r R W hrun hr hfr
    rw [VR] at h
    obtain ⟨A, k, rfl, hk, hc⟩ := h
    obtain ⟨⟨y, e', cells⟩, R', hs0, hrun2⟩ := run_rd hrun
    · change AM.run c.σ (if (off = 0 ∧ sz = 1) ∧ 0 < n ∧ cells.length = n then AM.ret (AV.fs y cells n) [(id, none)] else AM.fail) = _ at hrun2
      split at hrun2
      · rename_i hcond
        obtain ⟨⟨rfl, rfl⟩, hn, hl⟩ := hcond
        simp [AM.run] at hrun2
        obtain ⟨rfl, rfl, rfl⟩ := hrun2
        rcases hc with ⟨_, h2⟩ | ⟨b, h1, rfl, cs0, e0, f0, h3, h4⟩
        · omega
        · rcases hr.row id y e' cells hs0 with ⟨h5, _⟩ | ⟨b2, cs, h5, h6, h7, h8, h9⟩
          · rw [h1] at h5; cases h5
          · rw [h1] at h5; cases h5
            have hlt : b < c.w.heap.size := (Array.getElem?_eq_some_iff.1 h6).1
            have w1 : (c.w.freeze ⟨b, cs.size, none⟩ 1).heap[b]? = some (.cells cs e' (cs.size, cs.size + 1)) := by
              simp [World.freeze, Array.getElem?_modify, h6]
            have w2 : ∀ k, k ≠ b → (c.w.freeze ⟨b, cs.size, none⟩ 1).heap[k]? = c.w.heap[k]? := by
              intro k hk
              simp [World.freeze, Array.getElem?_modify, Ne.symm hk]
            have T := Then.melt hr nb hs0 h1 h6 w1 w2 (by simp [World.freeze]) (by simp [World.freeze]) (by simp [World.freeze]) (by simp [World.freeze])
            refine ⟨.slice (some ⟨b, 0, none⟩) n k, _, ?_, ?_, T⟩
            · have hsh : (shape b).run P c.w = .ok (some (e', cs.size)) c.w := by show Result.ok (c.w.shape? b) c.w = _; simp [World.shape?, h6]
              simp [convert, run_underlying hs, run_underlying he, markStringish, hsh]
            · rw [VR]
              refine ⟨_, _, rfl, hk, fun _ => ⟨b, 0, rfl, (Array.getElem?_eq_some_iff.1 w1).1, ⟨h7.1, ?_, h7.2⟩, ?_⟩⟩
              · rintro ⟨i, ob, k1, k2⟩
                by_cases e1 : i = id
                · subst e1; simp [app] at k1
                · have k1' : c.σ i = some ob := by simpa [app, e1] using k1
                  exact e1 (hr.inj i id b (by rw [k1']; simp) (by rw [hs0]; simp) k2 h1)
              · rw [VRm_iff]
                intro j a hj
                obtain ⟨u, k1, k2, k3⟩ := h9 j a hj
                exact ⟨u, by rw [Nat.zero_add]; simp [World.cell?, w1, k1], k2, VR.mono T.grow T.names k3⟩
      · cases hrun2
  | _ => exact Gives.fail
theorem bytesOf_ok {cs : List AV} {l : List Int} (h : bytesOf cs = some l) : cs = l.map fun x => .v (.int .u8 x) := by
  induction cs generalizing l with
  | nil => simp [bytesOf] at h; subst h; rfl
  | cons a r ih =>
    unfold bytesOf at h
    split at h
    · rename_i e; cases e
    · rename_i x r' e
      cases e
      split at h
      · rename_i l' hl; cases h; rw [ih hl]; rfl
      · cases h
    · cases h
theorem g_b2sOf {cs : List AV} {A : Option Addr} {k : Nat} {s d e : TypeId} (hs : P.underlying s = some (.slice e)) (he : P.underlying e = some (.int .u8)) (hd : P.underlying d = some .string)
    (hc : 0 < cs.length → ∃ b off, A = some ⟨b, off, none⟩ ∧ ∀ (j : Nat) a, cs[j]? = some a → ∃ u, c.w.cell? ⟨b, off + j, none⟩ = some u ∧ VR c a u) : Gives P (convert s d (.slice A cs.length k)) c (b2sOf cs) nb := by
  unfold b2sOf
  split
  · rename_i l hl
    have e1 := bytesOf_ok hl
    refine Gives.pure ?_ rfl
    rw [run_convert_bytes_string c.w s d e _ _ _ hs he hd]
    cases A with
    | none =>
      have : l = [] := by
        cases l with
        | nil => rfl
        | cons x l => obtain ⟨b, off, h1, _⟩ := hc (by rw [e1]; simp); cases h1
      subst this
      simp [Conv.bytesToString, strOf]
    | some a =>
      refine run_bytesToString c.w a _ _ l ?_
      have hlen : cs.length = (l.map (Value.int .u8)).length := by rw [e1]; simp
      rw [hlen]
      refine run_loadCells_list (w := c.w) (P := P) a _ fun j v hj => ?_
      obtain ⟨x, hx, rfl⟩ : ∃ x, l[j]? = some x ∧ Value.int .u8 x = v := by simpa using hj
      obtain ⟨b, off, h1, h2⟩ := hc (by rw [e1]; simp; have := (List.getElem?_eq_some_iff.1 hx).1; omega)
      cases h1
      obtain ⟨u, h3, h4⟩ := h2 j (.v (.int .u8 x)) (by rw [e1]; simp [hx])
      rw [VR] at h4
      rw [← h4]
      by_cases hj0 : j = 0
      · subst hj0; simpa [Addr.add] using h3
      · simpa [Addr.add, hj0] using h3
  · exact Gives.fail
theorem g_b2s {s d e : TypeId} (hs : P.underlying s = some (.slice e)) (he : P.underlying e = some (.int .u8)) (hd : P.underlying d = some .string) {a : AV} {u : Value} (h : VR c a u) : Gives P (convert s d u) c (b2sA a) nb := by
  cases a with
  | v a =>
    have e1 : u = a := h
    subst e1
    unfold b2sA
    split
    · rename_i n k e1
      cases e1
      exact Gives.pure (v := .string .empty) (by rw [run_convert_bytes_string c.w s d e _ _ _ hs he hd]; simp [Conv.bytesToString]) rfl
    · rename_i e1; cases e1
    · rename_i e1; cases e1
    · exact Gives.fail
  | fs fr cs n =>
    rw [VR] at h
    obtain ⟨A, k, rfl, hk, hc⟩ := h
    simp only [b2sA]
    split
    · rename_i hl
      subst hl
      refine g_b2sOf hs he hd fun hn => ?_
      obtain ⟨b, off, rfl, _, _, hm⟩ := hc (by omega)
      rw [VRm_iff] at hm
      exact ⟨b, off, rfl, fun j a hj => by obtain ⟨u, k1, _, k3⟩ := hm j a hj; exact ⟨u, k1, k3⟩⟩
    · exact Gives.fail
  | os id off n sz =>
    rw [VR] at h
    obtain ⟨A, k, rfl, hk, hc⟩ := h
    intro r R W hrun hr hfr
    obtain ⟨⟨y, e', cells⟩, R', hs0, hrun2⟩ := run_rd hrun
    · change AM.run c.σ (if sz = 1 ∧ ((cells.drop off).take n).length = n then b2sOf ((cells.drop off).take n) else .fail) = _ at hrun2
      split at hrun2
      · rename_i hcond
        obtain ⟨rfl, hl⟩ := hcond
        have G := g_b2sOf (c := c) (nb := nb) (A := A) (k := k) (cs := (cells.drop off).take n) hs he hd fun hn => by
          rcases hc with ⟨_, h2⟩ | ⟨b, h1, rfl, cs0, e0, f0, h3, h4⟩
          · omega
          · refine ⟨b, off, rfl, fun j a hj => ?_⟩
            rcases hr.row id y e' cells hs0 with ⟨h5, _⟩ | ⟨b2, cs, h5, h6, h7, h8, h9⟩
            · rw [h1] at h5; cases h5
            · rw [h1] at h5; cases h5
              rw [List.getElem?_take] at hj
              split at hj
              · rw [List.getElem?_drop] at hj
                obtain ⟨u, k1, k2, k3⟩ := h9 _ a hj
                exact ⟨u, by simp [World.cell?, h6, k1], k3⟩
              · cases hj
        rw [hl] at G
        exact G r R' W hrun2 hr hfr
      · cases hrun2
  | _ => exact Gives.fail
theorem compMM_spec {mx : Bool} {l : List Operand} {ao : AO} (h : compMM mx l = some ao) : ∃ x y, l = [x, y] ∧ ao = .mm mx x y := by
  unfold compMM at h
  split at h
  · cases h; exact ⟨_, _, rfl, rfl⟩
  · cases h
theorem compBi_spec {b : Builtin} {l : List Operand} {ao : AO} (h : compBi b l = some ao) : ∃ x y, l = [x, y] ∧ ((b = .min ∧ ao = .mm false x y) ∨ (b = .max ∧ ao = .mm true x y)) := by
  unfold compBi at h
  split at h
  · obtain ⟨x, y, h1, h2⟩ := compMM_spec h; exact ⟨x, y, h1, .inl ⟨rfl, h2⟩⟩
  · obtain ⟨x, y, h1, h2⟩ := compMM_spec h; exact ⟨x, y, h1, .inr ⟨rfl, h2⟩⟩
  · cases h
theorem g_mm {ats : Array TypeId} {ty : TypeId} {mx : Bool} {a b : AV} {u v : Value} (h : VR c a u) (h2 : VR c b v) : Gives P (if mx = true then Builtin.max_ ats ty #[u, v] else Builtin.min_ ats ty #[u, v]) c (mmA mx a b) nb := by
  cases a with
  | v a =>
    have e1 : u = a := h
    subst e1
    cases u with
    | int k x => cases b with
      | v b =>
        have e2 : v = b := h2
        subst e2
        cases v with
        | int k2 y =>
          refine Gives.pure (v := .int k (if mx = true then (if x < y then y else x) else (if y < x then y else x))) ?_ rfl
          cases mx <;> simp [Builtin.max_, Builtin.min_, Builtin.max2, Builtin.min2]
        | _ => exact Gives.fail
      | _ => exact Gives.fail
    | _ => exact Gives.fail
  | _ => exact Gives.fail
end Go.Proofs.YtdenddhdeloceaaGreatDoor
namespace Go.Proofs.YtdenddhdeloceaaGreatDoor
open Go.RowKit
variable {P : Program} {c : Cx} {nb : Nat}
theorem g_mkif {t : TypeId} {d : TypeDesc} (hu : P.underlying t = some d) (hd : ∀ ms, d ≠ .interface ms) {a : AV} {u : Value} (h : VR c a u) : Gives P (Instr.makeInterface t u) c (.ret (.ifc t a) []) nb := by
  refine Gives.pure (v := .iface t u) ?_ ⟨u, rfl, h⟩
  simp only [Instr.makeInterface, Sem.run_bind, run_underlying hu, Result.andThen_ok]
  cases d <;> first | (exact absurd rfl (hd _)) | simp
theorem g_aidx {t e : TypeId} {j : TypeInfo} {n : Nat} (hu : P.underlying t = some (.array n e)) (hj : P.info? e = some j) {a x : AV} {u v : Value} (h : VR c a u) (hx : VR c x v) :
    Gives P (Instr.indexAt t u v) c (aidxA j.size n a x) nb := by
  cases x with
  | v x =>
    have e0 : v = x := hx
    subst e0
    cases v with
    | int k i =>
      cases a with
      | fp fr cs off =>
        simp only [aidxA]
        split
        · rename_i hh
          obtain ⟨b, o, rfl, h1, h2, h3⟩ := h
          exact Gives.pure (v := .pointer (some ⟨b, o + (off + i.toNat * j.size), none⟩)) (by simp [Instr.indexAt, asIntOf, Instr.sureAddr, run_underlying hu, hh, sizeOf, typeInfo, hj, Addr.add_mid, Nat.add_assoc]) ⟨b, o, rfl, h1, h2, h3⟩
        · exact Gives.fail
      | op id off =>
        simp only [aidxA]
        split
        · rename_i hh
          obtain ⟨b, h1, rfl⟩ := h
          exact Gives.pure (v := .pointer (some ⟨b, off + i.toNat * j.size, none⟩)) (by simp [Instr.indexAt, asIntOf, Instr.sureAddr, run_underlying hu, hh, sizeOf, typeInfo, hj, Addr.add_mid]) ⟨b, h1, rfl⟩
        · exact Gives.fail
      | _ => exact Gives.fail
    | _ => exact Gives.fail
  | _ => exact Gives.fail
theorem g_cap {t ty e : TypeId} (hu : P.underlying t = some (.slice e)) {a : AV} {u : Value} (h : VR c a u) : Gives P (Builtin.cap_ #[t] ty #[u]) c (capA a) nb := by
  cases a with
  | v a =>
    have e1 : u = a := h
    subst e1
    cases u with
    | slice A n k => exact Gives.pure (v := .int .i64 k) (by simp [Builtin.cap_, run_underlying hu, goInt]) rfl
    | _ => exact Gives.fail
  | _ => exact Gives.fail
theorem g_sidx {t : TypeId} (hu : P.underlying t = some .string) {a x : AV} {u v : Value} (h : VR c a u) (hx : VR c x v) : Gives P (Instr.index t u v) c (sidxA a x) nb := by
  cases a with
  | v a =>
    have e1 : u = a := h
    subst e1
    cases u with
    | string s =>
      cases x with
      | v x =>
        have e0 : v = x := hx
        subst e0
        cases v with
        | int k i =>
          simp only [sidxA]
          split
          · rename_i h0
            split
            · rename_i b hb
              exact Gives.pure (v := .int .u8 b.toNat) (by simp [Instr.index, asIntOf, run_underlying hu, h0, hb]) rfl
            · exact Gives.fail
          · exact Gives.fail
        | _ => exact Gives.fail
      | _ => exact Gives.fail
    | _ => exact Gives.fail
  | _ => exact Gives.fail
theorem g_slice0 {t e : TypeId} {j : TypeInfo} (hu : P.underlying t = some (.slice e)) (hj : P.info? e = some j) {a : AV} {u : Value} (h : VR c a u) :
    Gives P (Instr.sliceAt t u none (some (.int .i64 0)) (some (.int .i64 0))) c (slice0A nb e j.size a) nb := by
  have hrun : ∀ A n k w, ∃ A', (Instr.sliceAt t (.slice A n k) none (some (.int .i64 0)) (some (.int .i64 0))).run P w = .ok (.slice A' 0 0) w ∧ (A = none → A' = none) := by
    intro A n k w
    refine ⟨if 0 = 0 then A else A.map (·.add (0 * j.size)), ?_, fun h => by simp [h]⟩
    simp [Instr.sliceAt, Instr.slice, run_underlying hu, Instr.sliceBounds, Instr.sliceBound, asIntOf, sizeOf, typeInfo, hj]
  have go : ∀ A n k, Gives P (Instr.sliceAt t (.slice A n k) none (some (.int .i64 0)) (some (.int .i64 0))) c (.ret (.os nb 0 0 j.size) [(nb, some (.row true e []))]) nb := by
    intro A n k r R W hr hh hn
    simp [AM.run] at hr
    obtain ⟨rfl, rfl, rfl⟩ := hr
    have hn1 := (hn nb (Nat.le_refl _)).resolve_right (by omega)
    obtain ⟨A', h1, _⟩ := hrun A n k c.w
    exact mkG (Then.virtual hh hn1 true e) ⟨A', 0, rfl, Nat.le_refl _, .inl ⟨by simp [Cx.put], rfl⟩⟩ h1
  cases a with
  | fs fr cs n => obtain ⟨A, k, rfl, _⟩ := h; exact go A n k
  | os id off n sz => obtain ⟨A, k, rfl, _⟩ := h; exact go A n k
  | v x =>
    have e0 : u = x := h
    subst e0
    unfold slice0A
    split
    · rename_i h0; cases h0
    · rename_i h0; cases h0
    · rename_i h0
      cases h0
      obtain ⟨A', h1, h2⟩ := hrun none 0 0 c.w
      rw [h2 rfl] at h1
      exact Gives.pure h1 rfl
    · exact Gives.fail
  | _ => exact Gives.fail
/-- what is read of a source: any part of it -/
structure Src2 (P : Program) (v : Value) (m : Nat) (news : List Value) (w : World) : Prop where
  from_ : ∃ A k, v = .slice A m k ∧ (m ≠ 0 → ∃ a, A = some a ∧ ∀ (j : Nat) u, news[j]? = some u → w.cell? (a.add j) = some u)
  len : news.length = m
  one : ∀ u ∈ news, u.oneCell' = true
theorem g_src2 {b : AV} {v : Value} (h : VR c b v) {s : Sem Value} {k : Nat → List AV → AM}
    (hs : HR c → ∀ m l news, Src2 P v m news c.w → VRl c l news → Gives P s c (k m l) nb) : Gives P s c (srcA 1 b k) nb := by
  cases b with
  | v x =>
    have e : v = x := h
    subst e
    unfold srcA
    split
    · rename_i h0; cases h0
    · rename_i h0; cases h0
    · rename_i k' h0
      cases h0
      intro r R W hr hh hn
      exact hs hh 0 [] [] ⟨⟨_, k', rfl, fun h => absurd rfl h⟩, rfl, fun _ h => by cases h⟩ rfl r R W hr hh hn
    · exact Gives.fail
  | fs fr cs m =>
    unfold srcA
    simp only
    split
    · rename_i hl
      obtain ⟨A, k', rfl, hk', hm⟩ := h
      intro r R W hr hh hn
      by_cases h0 : m = 0
      · subst h0
        have : cs = [] := List.eq_nil_of_length_eq_zero (by simpa using hl)
        subst this
        exact hs hh 0 [] [] ⟨⟨A, k', rfl, fun h => absurd rfl h⟩, rfl, fun _ h => by cases h⟩ rfl r R W hr hh hn
      · obtain ⟨b, off, rfl, _, _, hm⟩ := hm h0
        obtain ⟨us, e1, e2, e3⟩ := range_list (VRm_iff.1 hm)
        exact hs hh m cs us ⟨⟨_, k', rfl, fun _ => ⟨_, rfl, fun j u hu => by rw [Addr.add_mid]; exact e2 j u hu⟩⟩, by omega, VRl_one e3⟩ e3 r R W hr hh hn
    · exact Gives.fail
  | os id off m sz' =>
    obtain ⟨A, k', rfl, hk', hm⟩ := h
    refine Gives.look fun hr o ho => ?_
    obtain ⟨y, e, cells⟩ := o
    simp only
    split
    · rename_i hl
      obtain ⟨rfl, hl⟩ := hl
      by_cases h0 : m = 0
      · subst h0
        have : (cells.drop off).take (0 * 1) = [] := by simp
        rw [this]
        exact hs hr 0 [] [] ⟨⟨A, k', rfl, fun h => absurd rfl h⟩, rfl, fun _ h => by cases h⟩ rfl
      · rcases hm with ⟨_, h1⟩ | ⟨b, hφ, rfl, _⟩
        · omega
        · obtain ⟨cs, _, _, _, hm⟩ := hr.cells ho hφ
          obtain ⟨us, e1, e2, e3⟩ := range_list (c := c) (b := b) (off := off) (l := (cells.drop off).take (m * 1)) (fun j a hj => by
            rw [List.getElem?_take] at hj
            split at hj
            · rw [List.getElem?_drop] at hj
              have := hm _ _ hj
              rwa [Nat.zero_add] at this
            · cases hj)
          exact hs hr m _ us ⟨⟨_, k', rfl, fun _ => ⟨_, rfl, fun j u hu => by rw [Addr.add_mid]; exact e2 j u hu⟩⟩, by omega, VRl_one e3⟩ e3
    · exact Gives.fail
  | _ => exact Gives.fail
theorem g_copy {t tx ty e : TypeId} {i : TypeInfo} (ht : P.underlying t = some (.slice e)) (hi : P.info? e = some i) (h1 : i.size = 1) {a : AV} {u v : Value} (h : VR c a u)
    {m : Nat} {l : List AV} {news : List Value} (hs : Src2 P v m news c.w) (hl : VRl c l news) :
    Gives P (Builtin.copy_ #[t, tx] ty #[u, v]) c (copyA a m l) nb := by
  have hll := (VRl_iff.1 hl).1
  cases a with
  | os id off n sz =>
    obtain ⟨A, k, rfl, hnk, hA⟩ := h
    simp only [copyA]
    refine Gives.look fun hh o ho => ?_
    obtain ⟨y, e', cells⟩ := o
    simp only
    split
    · rename_i hcnd
      obtain ⟨⟨rfl, hn0⟩, hle⟩ := hcnd
      intro r R W hr _ hn
      simp [AM.run] at hr
      obtain ⟨rfl, rfl, rfl⟩ := hr
      rcases hA with ⟨_, hk0⟩ | ⟨b, hφ, rfl, cs, e2, f2, hcs, hsz⟩
      · omega
      · obtain ⟨cs', hb', hlen, hcells, hm⟩ := hh.cells ho hφ
        rw [hcs] at hb'
        cases hb'
        obtain ⟨⟨A2, k2, rfl, hsrc⟩, hnl, hone⟩ := hs
        have hqm : Nat.min m n ≤ m := Nat.min_le_left m n
        have hqn : Nat.min m n ≤ n := Nat.min_le_right m n
        generalize hq : Nat.min m n = q at *
        have ln : (news.take q).length = q := by rw [List.length_take]; omega
        have ll : (l.take q).length = q := by rw [List.length_take]; omega
        have T := Then.store hh nb ho hφ hcs off (news.take q) (cells' := setN cells off (l.take q)) (by omega) (by rw [setN_length]; exact hlen) (fun j a hj => by
          rw [setN_get _ (by omega), ll] at hj
          rw [setA_get _ _ _ _ (by omega), ln]
          split at hj
          · rename_i hin
            rw [if_pos hin]
            rw [List.getElem?_take] at hj ⊢
            split at hj
            · rename_i hlt
              rw [if_pos hlt]
              exact (VRl_iff.1 hl).2 _ _ hj
            · cases hj
          · rename_i hin
            rw [if_neg hin]
            exact hcells _ _ hj)
        refine ⟨_, _, ?_, rfl, T⟩
        by_cases hm0 : m = 0
        · subst hm0
          have hq0 : q = 0 := by omega
          subst hq0
          have := run_copy_none (P := P) c.w t tx ty e (some ⟨b, off, none⟩) A2 n k 0 k2 ht (by rw [hi]; simp [h1]) hq
          simpa [goInt, World.setCells] using this
        · obtain ⟨a2, rfl, hcell⟩ := hsrc hm0
          have := run_copy_cells (P := P) c.w t tx ty e b off n k a2 m k2 (news.take q) ht (by rw [hi]; simp [h1]) (by rw [ln, hq])
            (fun j v hj => hcell j v (by rw [List.getElem?_take] at hj; split at hj; · exact hj
                                         · cases hj))
            (fun j hj => by
              rw [ln] at hj
              have hlt : off + j < cs.size := by omega
              simp [World.cell?, hcs, hlt])
            (fun j _ => by simp [World.frozen?, hcs]) (fun v hv => hone v (List.mem_of_mem_take hv))
          rw [ln] at this
          exact this
    · exact Gives.fail
  | _ => exact Gives.fail
theorem g_appz {t tx ty e : TypeId} {i : TypeInfo} {z : Value} (ht : P.underlying t = some (.slice e)) (htx : P.underlying tx = some (.int .i64)) (hi : P.info? e = some i) (hz : i.zero = some z) (hzs : z.cells.size = i.size) (hb0 : 0 < i.bytes) (hs0 : 0 < i.size) (h1 : z.cells.toList.all (·.oneCell') = true)
    {a x : AV} {u v : Value} (h : VR c a u) (hx : VR c x v) : Gives P (Builtin.append_ #[t, tx] ty #[u, v]) c (appzA nb e i.size i.bytes z.cells.toList a x) nb := by
  cases a with
  | v a =>
    have e0 : u = a := h
    subst e0
    unfold appzA
    split
    · rename_i h0
      cases h0
      split
      · rename_i n
        have e0 : v = .int .i64 n := hx
        subst e0
        split
        · rename_i hh
          obtain ⟨hp, hb⟩ := hh
          intro r R W hr hH hn
          simp [AM.run] at hr
          obtain ⟨rfl, rfl, rfl⟩ := hr
          have hn1 := (hn nb (Nat.le_refl _)).resolve_right (by omega)
          have hnb : (n.toNat : Int) ≤ 140737488355328 := by
            have := Nat.le_mul_of_pos_right n.toNat hb0
            omega
          have hw : IntKind.i64.wrap n = n := by rw [IntKind.wrap_i64]; omega
          have hnz : ¬ n.toNat = 0 := by omega
          have hfit := growslice_fits (need := n.toNat) (old := 0) (bytes := i.bytes) (by omega) hb
          have h48 : ¬ (281474976710656 < n * (i.bytes : Int)) := by
            have : n * (i.bytes : Int) = ((n.toNat * i.bytes : Nat) : Int) := by rw [Int.natCast_mul, Int.toNat_of_nonneg (by omega)]
            omega
          have T0 := Then.drew hH nb
          have T := Then.alloc (c := ⟨c.w.drew, c.B, c.φ, c.σ, c.X, c.Y⟩) T0.hr hn1 (Builtin.zeroCells z.cells n.toNat ++ Builtin.zeroCells z.cells (grownCap c.w n.toNat 0 e - n.toNat)) e ((List.replicate n.toNat (z.cells.toList.map .v)).flatten) (by rw [flatten_len]; simp [zeroCells_size, hzs]) (fun q a hq => by
              obtain ⟨f1, f2⟩ := flatten_get hq
              rw [List.length_map, Array.length_toList] at f1 f2
              rw [List.getElem?_map, Option.map_eq_some_iff] at f2
              obtain ⟨y, hy, rfl⟩ := f2
              refine ⟨y, ?_, List.all_eq_true.1 h1 y (List.mem_of_getElem? hy), rfl⟩
              have hq2 : q % z.cells.size < z.cells.size := Nat.mod_lt _ (by omega)
              rw [Array.getElem?_append_left (by rw [zeroCells_size]; exact f1)]
              simp only [Builtin.zeroCells, Array.getElem?_map, Array.getElem?_range, f1, if_true, Option.map_some]
              rw [getElem!_pos z.cells _ hq2]
              rw [Array.getElem?_toList, Array.getElem?_eq_getElem hq2] at hy
              exact hy) true
          refine ⟨.slice (some ⟨c.w.heap.size, 0, none⟩) n.toNat (grownCap c.w n.toNat 0 e), _, ?_, ⟨_, _, rfl, grownCap_ge c.w n.toNat 0 e, .inr ⟨c.w.heap.size, by simp [Cx.put], rfl, _, e, (0, 0), heap_new _ _, ?_⟩⟩, (T0.trans T)⟩
          · have h63 : ¬ (9223372036854775807 < max n 0) := by omega
            have h48' : ¬ (281474976710656 < Builtin.nextslicecap n.toNat 0 * i.bytes) := by omega
            have hlt : ¬ n < 0 := by omega
            have hne : n.toNat * i.size ≠ 0 := Nat.mul_ne_zero (by omega) (by omega)
            have hle : ¬ n ≤ 0 := by omega
            simp [Builtin.append_, run_underlying ht, run_underlying htx, sizeOf, typeInfo, zeroValue, hi, hz, asInt, asIntOf, hw, hlt, h48, hnz, hle, h63, h48', Question.forced, Builtin.firstCells, newRow, grownCap, Cx.put, World.alloc_eq]
            exact fun h0 => absurd h0 hne
          · have := grownCap_ge c.w n.toNat 0 e
            simp only [Array.size_append, zeroCells_size, hzs, Nat.zero_add] at *
            rw [← Nat.add_mul]
            have : n.toNat + (grownCap c.w n.toNat 0 e - n.toNat) = grownCap c.w n.toNat 0 e := by omega
            rw [this]
            exact Nat.le_refl _
        · exact Gives.fail
      · exact Gives.fail
    · rename_i h0; cases h0
    · exact Gives.fail
  | os id off n sz' =>
    unfold appzA
    split
    · rename_i h0; cases h0
    · rename_i h0
      cases h0
      split
      · rename_i i0
        have e0 : v = .int .i64 i0 := hx
        subst e0
        obtain ⟨A, k, rfl, hnk, hA⟩ := h
        refine Gives.look fun hh o ho => ?_
        obtain ⟨y, e', cells⟩ := o
        simp only
        split
        · rename_i hcnd
          obtain ⟨⟨rfl, rfl, hcl⟩, hp, hb⟩ := hcnd
          intro r R W hr _ hn
          simp [AM.run] at hr
          obtain ⟨rfl, rfl, rfl⟩ := hr
          have hn1 := (hn nb (Nat.le_refl _)).resolve_right (by omega)
          have hne : id ≠ nb := by
            intro e1
            rw [e1, hh.noRow hn1] at ho
            cases ho
          have hnb : ((n + i0.toNat : Nat) : Int) ≤ 140737488355328 := by
            have := Nat.le_mul_of_pos_right (n + i0.toNat) hb0
            omega
          have hi0 : i0.toNat * i.bytes ≤ 140737488355328 := by
            have : i0.toNat * i.bytes ≤ (n + i0.toNat) * i.bytes := Nat.mul_le_mul_right _ (by omega)
            omega
          have hw : IntKind.i64.wrap i0 = i0 := by rw [IntKind.wrap_i64]; omega
          have hlt : ¬ i0 < 0 := by omega
          have h48 : ¬ (281474976710656 < i0 * (i.bytes : Int)) := by
            have : i0 * (i.bytes : Int) = ((i0.toNat * i.bytes : Nat) : Int) := by rw [Int.natCast_mul, Int.toNat_of_nonneg (by omega)]
            omega
          have hz0 : i0.toNat * i.size ≠ 0 := Nat.mul_ne_zero (by omega) (by omega)
          generalize hm : i0.toNat = m at *
          have zl : ((List.replicate m (z.cells.toList.map AV.v)).flatten).length = m * i.size := by rw [flatten_len]; simp [hzs]
          have zc : ∀ (q : Nat) a, ((List.replicate m (z.cells.toList.map AV.v)).flatten)[q]? = some a → ∃ x, (Builtin.zeroCells z.cells m)[q]? = some x ∧ x.oneCell' = true ∧ a = .v x := by
            intro q a hq
            obtain ⟨f1, f2⟩ := flatten_get hq
            rw [List.length_map, Array.length_toList] at f1 f2
            rw [List.getElem?_map, Option.map_eq_some_iff] at f2
            obtain ⟨y, hy, rfl⟩ := f2
            refine ⟨y, ?_, List.all_eq_true.1 h1 y (List.mem_of_getElem? hy), rfl⟩
            have hq2 : q % z.cells.size < z.cells.size := Nat.mod_lt _ (by omega)
            simp only [Builtin.zeroCells, Array.getElem?_map, Array.getElem?_range, f1, if_true, Option.map_some]
            rw [getElem!_pos z.cells _ hq2]
            rw [Array.getElem?_toList, Array.getElem?_eq_getElem hq2] at hy
            exact hy
          have zs : (Builtin.zeroCells z.cells m).size = m * i.size := by rw [zeroCells_size, hzs]
          by_cases hroom : n + m ≤ k
          · rcases hA with ⟨_, h1⟩ | ⟨b, hφ, rfl, cs, e2, f2, hcs, hsz⟩
            · omega
            · obtain ⟨cs', hb', hle, hcells, _⟩ := hh.cells ho hφ
              rw [hcs] at hb'
              cases hb'
              have hmul : (n + m) * i.size ≤ k * i.size := Nat.mul_le_mul_right _ hroom
              rw [Nat.add_mul] at hmul
              have hst := run_storeCells_cells (P := P) b (n * i.size) (Builtin.zeroCells z.cells m).toList 0 c.w (fun j hj => by
                  have hlt : n * i.size + 0 + j < cs.size := by simp [zs] at hj; omega
                  simp only [World.cell?, hcs]
                  rw [Array.getElem?_eq_getElem hlt]; rfl) (fun j _ => by simp [World.frozen?, hcs]) (fun v hv => by
                  obtain ⟨q, hq, rfl⟩ := List.mem_iff_getElem.1 hv
                  have hq' : q < ((List.replicate m (z.cells.toList.map AV.v)).flatten).length := by rw [zl]; simp [zs] at hq; exact hq
                  obtain ⟨x, x1, x2, _⟩ := zc q _ (List.getElem?_eq_getElem hq')
                  have : (Builtin.zeroCells z.cells m).toList[q]? = some x := by simpa using x1
                  rw [List.getElem?_eq_getElem hq] at this
                  cases this
                  exact x2)
              have T1 := Then.store hh nb ho hφ hcs (n * i.size) (Builtin.zeroCells z.cells m).toList (cells' := cells ++ (List.replicate m (z.cells.toList.map AV.v)).flatten) (by simp [zs]; omega) (by rw [List.length_append, zl]; omega) (fun j a hj => by
                rw [setA_get _ _ _ _ (by simp [zs]; omega)]
                rw [List.getElem?_append] at hj
                split at hj
                · rw [if_neg (by omega)]; exact hcells j a hj
                · rename_i hj2
                  have hj3 : j - cells.length < ((List.replicate m (z.cells.toList.map AV.v)).flatten).length := by rw [List.getElem?_eq_some_iff] at hj; exact hj.1
                  rw [zl] at hj3
                  rw [if_pos (by simp [zs]; omega), show j - n * i.size = j - cells.length from by omega]
                  obtain ⟨x, x1, x2, rfl⟩ := zc _ _ hj
                  exact ⟨x, by simpa using x1, x2, rfl⟩)
              have T2 := Then.rename T1.hr (nb := nb) hn1 hne (by simp [app]; exact ⟨rfl, rfl, rfl⟩) hφ
              refine ⟨.slice (some ⟨b, 0, none⟩) (n + m) k, _, ?_, ⟨_, k, rfl, hroom, .inr ⟨b, by simp [Cx.put], rfl, setA cs (n * i.size) (Builtin.zeroCells z.cells m).toList, e', (0, 0), setCells_heap _ _ _ _ hcs, by rw [setA_size]; exact hsz⟩⟩, (T1.trans T2).eqW ?_⟩
              · have hst' : (storeCells (({ block := b, off := 0 } : Addr).add (n * i.size)) (Builtin.zeroCells z.cells m).toList).run P c.w = .ok () (c.w.setCells b (n * i.size) (Builtin.zeroCells z.cells m).toList) := by
                  rw [Addr.add_mid, Nat.zero_add]; simpa using hst
                simp only [Builtin.append_]
                simp [run_underlying ht, run_underlying htx, sizeOf, typeInfo, zeroValue, hi, hz, asInt, asIntOf, hw, hlt, h48, hm, hroom, hz0, hst', Cx.put]
              · funext q
                simp only [app, List.cons_append, List.nil_append]
                by_cases q1 : q = nb <;> by_cases q2 : q = id <;> simp [q1, q2]
          · have hold : ∃ olds : List Value, (Builtin.firstCells i.size n (.slice A n k)).run P c.w.drew = .ok olds.toArray c.w.drew ∧ olds.length = n * i.size ∧ ∀ (j : Nat) a, cells[j]? = some a → ∃ u, olds[j]? = some u ∧ u.oneCell' = true ∧ VR c a u := by
              by_cases h0 : n = 0
              · subst h0
                have h2 : cells = [] := List.eq_nil_of_length_eq_zero (by omega)
                subst h2
                exact ⟨[], by cases A <;> simp [Builtin.firstCells, loadCells, loadCellsFrom], by simp, fun j a hj => by simp at hj⟩
              · rcases hA with ⟨_, h1⟩ | ⟨b, hφ, rfl, _⟩
                · omega
                · obtain ⟨cs, _, _, _, hm⟩ := hh.cells ho hφ
                  obtain ⟨us, e1, e2, e3⟩ := range_list (c := c) (b := b) (off := 0) (l := cells) hm
                  exact ⟨us, run_firstCells_some c.w.drew i.size n ⟨b, 0, none⟩ n k us (by omega) (fun j u hu => by rw [Addr.add_mid]; simpa using e2 j u hu), by omega, (VRl_iff.1 e3).2⟩
            obtain ⟨olds, hold, hol, hov⟩ := hold
            have hfit := growslice_fits (need := n + m) (old := k) (bytes := i.bytes) (by omega) hb
            have h48' : ¬ (281474976710656 < Builtin.nextslicecap (n + m) k * i.bytes) := by omega
            have h63 : ¬ (9223372036854775807 < (n : Int) + (m : Int)) := by omega
            have T0 := Then.drew hh nb
            have T := Then.alloc (c := ⟨c.w.drew, c.B, c.φ, c.σ, c.X, c.Y⟩) T0.hr hn1 (olds.toArray ++ Builtin.zeroCells z.cells m ++ Builtin.zeroCells z.cells (grownCap c.w (n + m) k e' - (n + m))) e' (cells ++ (List.replicate m (z.cells.toList.map AV.v)).flatten) (by rw [List.length_append, zl]; simp [zs]; omega) (fun j a hj => by
              rw [List.getElem?_append] at hj
              split at hj
              · obtain ⟨u, e1, e2, e3⟩ := hov j a hj
                refine ⟨u, ?_, e2, e3.mono T0.grow T0.names⟩
                rw [Array.getElem?_append_left (by simp; omega), Array.getElem?_append_left (by simp; omega)]
                simpa using e1
              · rename_i hj2
                obtain ⟨x, x1, x2, rfl⟩ := zc _ _ hj
                refine ⟨x, ?_, x2, rfl⟩
                have hj3 : j - cells.length < m * i.size := by rw [← zs]; exact (Array.getElem?_eq_some_iff.1 x1).1
                rw [Array.getElem?_append_left (by simp [zs]; omega), Array.getElem?_append_right (by simp; omega)]
                simp only [List.size_toArray]
                rw [hol, ← hcl]; exact x1) y
            have T2 := Then.drop T.hr nb id
            refine ⟨.slice (some ⟨c.w.heap.size, 0, none⟩) (n + m) (grownCap c.w (n + m) k e'), _, ?_, ⟨_, _, rfl, grownCap_ge _ _ _ _, .inr ⟨c.w.heap.size, by simp [Cx.put], rfl, _, e', (0, 0), heap_new _ _, ?_⟩⟩, ((T0.trans T).trans T2).eqW ?_⟩
            · simp only [Builtin.append_]
              simp [run_underlying ht, run_underlying htx, sizeOf, typeInfo, zeroValue, hi, hz, asInt, asIntOf, hw, hlt, h48, hm, hroom, hz0, h63, h48', Question.forced, hold, newRow, grownCap, Cx.put, World.alloc_eq]
              exact fun hc => absurd hc (by omega)
            · have := grownCap_ge c.w (n + m) k e'
              simp only [Array.size_append, List.size_toArray, zs, zeroCells_size, hzs, Nat.zero_add] at *
              rw [hol, ← Nat.add_mul, ← Nat.add_mul]
              have : n + m + (grownCap c.w (n + m) k e' - (n + m)) = grownCap c.w (n + m) k e' := by omega
              rw [this]
              exact Nat.le_refl _
            · funext q
              simp only [app, List.cons_append, List.nil_append]
              by_cases q1 : q = nb <;> by_cases q2 : q = id <;> simp [q1, q2] <;> first | exact hne | exact fun e => hne e.symm
        · exact Gives.fail
      · exact Gives.fail
    · exact Gives.fail
  | _ => exact Gives.fail
end Go.Proofs.YtdenddhdeloceaaGreatDoor
namespace Go.Proofs.YtdenddhdeloceaaGreatDoor
open Go.RowKit
variable {P : Program} {c : Cx} {nb : Nat}

theorem list_one {α : Type} {a : Array α} {x : α} (h : a.toList = [x]) : a = #[x] := Array.ext' (by simpa using h)
theorem list_two {α : Type} {a : Array α} {x y : α} (h : a.toList = [x, y]) : a = #[x, y] := Array.ext' (by simpa using h)
set_option maxRecDepth 4000 in
theorem eff_sound {o : Oper} {ao : AO} (h : compOp P o = some ao) {ρ : Operand → AV} {ev : Operand → Value} (hv : ∀ x, VR c (ρ x) (ev x)) (hk : ∀ z, ev (.const z) = z) : GivesN P (execOp ev o) c (eff ρ nb ao) nb := by
  obtain ⟨dst, op, ty, pos, after, guard⟩ := o
  cases op <;> simp only [compOp] at h
  case move x => cases h; exact GivesN.value (fun w => by simp [execOp]) (hv x)
  case assign x => cases h; exact GivesN.value (fun w => by simp [execOp]) (hv x)
  case pick a b d =>
    cases h
    simp only [eff, pickA]
    have := hv a
    cases hc : ρ a with
    | v q =>
      rw [hc] at this
      have e : ev a = q := this
      cases q with
      | bool t =>
        simp only
        refine GivesN.value (v := if t = true then ev b else ev d) (fun w => by simp [execOp, e, asBool]) ?_
        cases t
        · simpa using hv d
        · simpa using hv b
      | _ => exact GivesN.fail
    | _ => exact GivesN.fail
  case alloc t =>
    split at h
    · rename_i i hi
      split at h
      · rename_i z hz
        split at h
        · rename_i h1
          cases h
          exact GivesN.of (g_new hi hz h1)
        · cases h
      · cases h
    · cases h
  case box t x => cases h; exact GivesN.of (g_box (hv x))
  case build t ps =>
    split at h
    · rename_i i hi
      split at h
      · rename_i z hz
        split at h
        · rename_i fs hu
          split at h
          · rename_i l hl
            split at h
            · rename_i q hq
              split at h
              · rename_i h1
                cases h
                exact GivesN.of (g_build hi hz hu hl hq h1 ρ ev hv)
              · cases h
            · cases h
          · cases h
        · cases h
      · cases h
    · cases h
  case load t a =>
    split at h
    · rename_i i hi
      split at h
      · rename_i d hu
        cases h
        exact GivesN.of (g_load hu hi (hv a))
      · cases h
    · cases h
  case store t a x =>
    split at h
    · rename_i i hi
      cases h
      exact GivesN.skip (g_store hi (hv a) (hv x))
    · cases h
  case fieldAddr s a k =>
    split at h
    · rename_i fs hu
      split at h
      · rename_i f hf
        split at h
        · rename_i i hi
          split at h
          · cases h
          · rename_i h0
            cases h
            exact GivesN.of (g_foff hu hf hi h0 (hv a))
        · cases h
      · cases h
    · cases h
  case field s x k =>
    split at h
    · rename_i fs hu
      split at h
      · rename_i f hf
        split at h
        · rename_i i hi
          split at h
          · rename_i d hd
            cases h
            exact GivesN.of (g_fld hu hf hi hd (hv x))
          · cases h
        · cases h
      · cases h
    · cases h
  case indexAddr t x i =>
    split at h
    · rename_i e hu
      split at h
      · rename_i j hj
        cases h
        exact GivesN.of (g_idx hu hj (hv x) (hv i))
      · cases h
    · rename_i n e hu
      split at h
      · rename_i j hj
        cases h
        exact GivesN.of (g_aidx hu hj (hv x) (hv i))
      · cases h
    · cases h
  case index t x i =>
    split at h
    · rename_i hu
      cases h
      exact GivesN.of (g_sidx hu (hv x) (hv i))
    · cases h
  case makeInterface t x =>
    split at h
    · cases h
    · rename_i d hne hu
      cases h
      exact GivesN.of (g_mkif hu (fun ms e => hne ms e) (hv x))
    · cases h
  case panic x => cases h; exact GivesN.fail
  case binOp op t x y ty' =>
    split at h
    · cases h; exact GivesN.of (g_bin (hv x) (hv y))
    · cases h; exact GivesN.of (g_bin (hv x) (hv y))
    · rename_i hu
      split at h
      · cases h; exact GivesN.of (g_beq (.inl ⟨rfl, rfl⟩) hu (hv x) (hv y))
      · cases h; exact GivesN.of (g_beq (.inr ⟨rfl, rfl⟩) hu (hv x) (hv y))
      · cases h
    · unfold compEq at h
      split at h
      · obtain ⟨ks, rfl, hg⟩ := g_eqs (c := c) (nb := nb) (x0 := x) (y0 := y) (.inl ⟨rfl, rfl⟩) h (hv x) (hv y)
        exact GivesN.of hg
      · obtain ⟨ks, rfl, hg⟩ := g_eqs (c := c) (nb := nb) (x0 := x) (y0 := y) (.inr ⟨rfl, rfl⟩) h (hv x) (hv y)
        exact GivesN.of hg
      · cases h
    · rename_i d _ _ _ _ hu
      split at h
      · rename_i z hz
        obtain ⟨rfl, hd⟩ := isNilC_spec hz
        have hd' : ((∃ e, P.underlying t = some (.slice e)) ∧ z = .slice none 0 0) ∨ (∃ e, P.underlying t = some (.pointer e)) ∧ z = .pointer none ∨ (∃ e, P.underlying t = some (.interface e)) ∧ z = .nilIface := by
          rcases hd with ⟨⟨e, rfl⟩, h2⟩ | ⟨⟨e, rfl⟩, h2⟩ | ⟨⟨e, rfl⟩, h2⟩
          · exact .inl ⟨⟨e, hu⟩, h2⟩
          · exact .inr (.inl ⟨⟨e, hu⟩, h2⟩)
          · exact .inr (.inr ⟨⟨e, hu⟩, h2⟩)
        split at h
        · cases h
          refine GivesN.of ?_
          rw [hk]
          exact g_isnil (.inl ⟨rfl, rfl⟩) hd' rfl (hv x)
        · cases h
          refine GivesN.of ?_
          rw [hk]
          exact g_isnil (.inr ⟨rfl, rfl⟩) hd' rfl (hv x)
        · cases h
      · cases h
    · cases h
  case unOp op t x => cases h; exact GivesN.of (g_un (hv x))
  case convert s d x =>
    split at h
    · rename_i hs
      split at h
      · rename_i hd
        cases h
        exact GivesN.of (g_conv hs hd (hv x))
      · cases h
    · rename_i hs
      split at h
      · rename_i he
        split at h
        · rename_i hd
          cases h
          exact GivesN.of (g_b2s hs he hd (hv x))
        · rename_i hd
          split at h
          · rename_i hsd
            cases h
            subst hsd
            exact GivesN.of (g_sconv hs he (hv x))
          · cases h
        · cases h
      · cases h
    · cases h
  case extract x i => cases h; exact GivesN.of (g_ext (hv x))
  case nilCheck x =>
    cases h
    simp only [eff, nilA]
    have := hv x
    cases hc : ρ x with
    | op id off =>
      rw [hc] at this
      obtain ⟨b, h1, h2⟩ := this
      exact GivesN.value (v := ev x) (fun w => by simp [execOp, h2]) ⟨b, h1, h2⟩
    | fp fr cs off =>
      rw [hc] at this
      obtain ⟨b, o, h2, h3⟩ := this
      exact GivesN.value (v := ev x) (fun w => by simp [execOp, h2]) ⟨b, o, h2, h3⟩
    | _ => exact GivesN.fail
  case slice t x lo hi mx =>
    split at h
    · split at h
      · rename_i e hu
        split at h
        · rename_i j hj
          cases h
          exact GivesN.of (g_slice hu hj (hv x) (opt_map hv lo).1 (opt_map hv lo).2 (opt_map hv hi).1 (opt_map hv hi).2)
        · cases h
      · cases h
    · split at h
      · split at h
        · rename_i e hu
          split at h
          · rename_i j hj
            cases h
            have := GivesN.of (g_slice0 (P := P) (c := c) (nb := nb) hu hj (hv x))
            simpa [execOp, hk, eff] using this
          · cases h
        · cases h
      · cases h
  case makeSlice t n cc =>
    split at h
    · rename_i e hu
      split at h
      · rename_i j hj
        split at h
        · rename_i z hz
          split at h
          · rename_i hh
            cases h
            exact GivesN.of (g_mksl hu hj hz hh.1 hh.2 (hv n) (hv cc))
          · cases h
        · cases h
      · cases h
    · cases h
  case buildSlice t n ps =>
    split at h
    · rename_i e hu
      split at h
      · rename_i j hj
        split at h
        · rename_i z hz
          split at h
          · rename_i hh
            cases h
            exact GivesN.of (g_bslice hu hj hz hh ρ ev hv)
          · cases h
        · cases h
      · cases h
    · cases h
  case makeFunc fn first caps =>
    cases fn <;> simp only at h
    case func f =>
      split at h
      · rename_i h0
        cases h
        have hf : first = #[] := Array.eq_empty_of_size_eq_zero h0
        subst hf
        refine GivesN.value (v := .func (.func f) #[] (caps.map ev)) (fun w => by simp [execOp, Instr.makeFunc]) ⟨caps.toList.map ev, by congr 1; apply Array.ext'; simp, VRt_map hv _⟩
      · cases h
    all_goals cases h
  case call cl =>
    obtain ⟨callee, args, ats⟩ := cl
    cases callee <;> simp only at h
    case value f =>
      cases f <;> simp only at h <;> cases h <;> exact GivesN.fail
    case builtin b =>
      cases b <;> (try simp only at h)
      case len =>
        split at h
        · rename_i t x ht hx
          have e1 := list_one ht
          have e2 := list_one hx
          split at h
          · rename_i hu
            cases h
            have := GivesN.of (g_len (P := P) (c := c) (nb := nb) (ty := ty) hu (hv x))
            simpa [execOp, resolve, invoke, builtin, e1, e2, eff] using this
          · rename_i hu
            cases h
            have := GivesN.of (g_slen (P := P) (c := c) (nb := nb) (ty := ty) hu (hv x))
            simpa [execOp, resolve, invoke, builtin, e1, e2, eff] using this
          · cases h
        · cases h
      case append =>
        split at h
        · rename_i t u x y ht hx
          have e1 := list_two ht
          have e2 := list_two hx
          split at h
          · rename_i e hu
            split at h
            · rename_i e' hu'
              split at h
              · rename_i j hj
                split at h
                · rename_i z hz
                  split at h
                  · rename_i hh
                    cases h
                    have := GivesN.of (g_src (P := P) (c := c) (nb := nb) hu' (hv y) (s := Builtin.append_ #[t, u] ty #[ev x, ev y]) (k := appA nb e j.size j.bytes (ρ x)) (fun _ m l news hs hl => g_appA hu hj hz hh.1 hh.2 (hv x) hs hl))
                    simpa [execOp, resolve, invoke, builtin, e1, e2, eff] using this
                  · cases h
                · cases h
              · cases h
            · rename_i hu'
              split at h
              · rename_i j hj
                split at h
                · rename_i z hz
                  split at h
                  · rename_i hh
                    cases h
                    have := GivesN.of (g_appz (P := P) (c := c) (nb := nb) (ty := ty) hu hu' hj hz hh.1.1 hh.1.2 hh.2.1 hh.2.2 (hv x) (hv y))
                    simpa [execOp, resolve, invoke, builtin, e1, e2, eff] using this
                  · cases h
                · cases h
              · cases h
            · cases h
          · cases h
        · cases h
      case cap =>
        split at h
        · rename_i t x ht hx
          have e1 := list_one ht
          have e2 := list_one hx
          split at h
          · rename_i hu
            cases h
            have := GivesN.of (g_cap (P := P) (c := c) (nb := nb) (ty := ty) hu (hv x))
            simpa [execOp, resolve, invoke, builtin, e1, e2, eff] using this
          · cases h
        · cases h
      case copy =>
        split at h
        · rename_i t u x y ht hx
          have e1 := list_two ht
          have e2 := list_two hx
          split at h
          · rename_i e hu
            split at h
            · rename_i e' hu'
              split at h
              · rename_i j hj
                split at h
                · rename_i h1
                  cases h
                  have := GivesN.of (g_src2 (P := P) (c := c) (nb := nb) (hv y) (s := Builtin.copy_ #[t, u] ty #[ev x, ev y]) (k := copyA (ρ x)) (fun _ m l news hs hl => g_copy hu hj h1 (hv x) hs hl))
                  simpa [execOp, resolve, invoke, builtin, e1, e2, eff] using this
                · cases h
              · cases h
            · cases h
          · cases h
        · cases h
      case min =>
        obtain ⟨x, y, hx, ⟨_, rfl⟩ | ⟨h1, _⟩⟩ := compBi_spec h
        · have := GivesN.of (g_mm (P := P) (c := c) (nb := nb) (ats := ats) (ty := ty) (mx := false) (hv x) (hv y))
          simpa [execOp, resolve, invoke, builtin, list_two hx, eff] using this
        · cases h1
      case max =>
        obtain ⟨x, y, hx, ⟨h1, _⟩ | ⟨_, rfl⟩⟩ := compBi_spec h
        · cases h1
        · have := GivesN.of (g_mm (P := P) (c := c) (nb := nb) (ats := ats) (ty := ty) (mx := true) (hv x) (hv y))
          simpa [execOp, resolve, invoke, builtin, list_two hx, eff] using this
      all_goals (obtain ⟨x, y, hx, ⟨h1, _⟩ | ⟨h1, _⟩⟩ := compBi_spec h <;> cases h1)
    case invoke _ _ => cases h
  all_goals cases h
end Go.Proofs.YtdenddhdeloceaaGreatDoor
namespace Go.Proofs.YtdenddhdeloceaaGreatDoor
open Go.RowKit
variable {P : Program}

theorem fillA_congr {ρ ρ' : Operand → AV} : ∀ {q : List (Nat × Nat × Operand)} {l : List AV}, (∀ o n x, (o, n, x) ∈ q → ρ x = ρ' x) → fillA ρ l q = fillA ρ' l q
  | [], l, _ => rfl
  | (o, n, x) :: q, l, h => by
    rw [fillA, fillA, h o n x (by simp)]
    split
    · split
      · exact fillA_congr (fun o n x hx => h o n x (by simp [hx]))
      · rfl
    · rfl
theorem partsOf_mem {l : List (Nat × Nat)} : ∀ {ps : List (Nat × Operand)} {q : List (Nat × Nat × Operand)}, partsOf l ps = some q → ∀ o n x, (o, n, x) ∈ q → ∃ i, (i, x) ∈ ps
  | [], q, h, o, n, x, hx => by simp [partsOf] at h; subst h; simp at hx
  | (i, y) :: ps, q, h, o, n, x, hx => by
    rw [partsOf] at h
    split at h
    · split at h
      · rename_i q' hq
        simp at h
        subst h
        rcases List.mem_cons.1 hx with e | e
        · cases e; exact ⟨i, by simp⟩
        · obtain ⟨k, hk⟩ := partsOf_mem hq o n x e; exact ⟨k, by simp [hk]⟩
      · cases h
    · cases h
/-- an operation looks at its operands alone -/
theorem eff_congr {o : Oper} {ao : AO} (h : compOp P o = some ao) {ρ ρ' : Operand → AV} (hρ : ∀ x ∈ o.op.operands, ρ x = ρ' x) (nb : Nat) : eff ρ nb ao = eff ρ' nb ao := by
  obtain ⟨dst, op, ty, pos, after, guard⟩ := o
  cases op <;> simp only [compOp, compEq, compEqs] at h
  case build t ps =>
    (repeat' split at h) <;> first
      | (cases h; done)
      | (rename_i q hq _; cases h; simp only [eff]; rw [fillA_congr (ρ := ρ) (ρ' := ρ') fun o n x hx => ?_]; obtain ⟨i, hi⟩ := partsOf_mem hq o n x hx; exact hρ x (by simp [Op.operands]; exact ⟨i, by simpa using hi⟩))
  case buildSlice t n ps =>
    (repeat' split at h) <;> first
      | (cases h; done)
      | (cases h; simp only [eff]; rw [fillA_congr (ρ := ρ) (ρ' := ρ') fun o n x hx => ?_]; obtain ⟨⟨i, y⟩, hi, e⟩ := List.mem_map.1 hx; cases e; exact hρ y (by simp [Op.operands]; exact ⟨i, by simpa using hi⟩))
  case slice t x lo hi mx =>
    have e0 : ρ x = ρ' x := hρ x (by cases lo <;> cases hi <;> cases mx <;> simp [Op.operands])
    (repeat' split at h) <;> first
      | (cases h; done)
      | (cases h; simp only [eff, e0]; done)
      | (cases h; simp only [eff]; rw [e0]; cases lo <;> cases hi <;> simp [Op.operands] at hρ ⊢ <;> simp [hρ])
  case makeFunc fn first caps =>
    cases fn <;> simp only at h
    case func f =>
      split at h
      · cases h; simp only [eff]; rw [List.map_congr_left fun x hx => hρ x (by simp [Op.operands]; exact .inr (by simpa using hx))]
      · cases h
    all_goals cases h
  case call cl =>
    obtain ⟨callee, args, ats⟩ := cl
    cases callee <;> simp only at h
    case value f => cases f <;> simp only at h <;> cases h <;> rfl
    case invoke => cases h
    case builtin b =>
      cases b <;> (try simp only at h)
      case len =>
        split at h
        · rename_i t x ht hx
          have e := list_one hx
          subst e
          have e1 := hρ x (by simp [Op.operands, Call.operands])
          split at h <;> first | (cases h; done) | (cases h; simp [eff, e1])
        · cases h
      case cap =>
        split at h
        · rename_i t x ht hx
          have e := list_one hx
          subst e
          have e1 := hρ x (by simp [Op.operands, Call.operands])
          split at h <;> first | (cases h; done) | (cases h; simp [eff, e1])
        · cases h
      case copy =>
        split at h
        · rename_i t u x y ht hx
          have e := list_two hx
          subst e
          have e1 := hρ x (by simp [Op.operands, Call.operands])
          have e2 := hρ y (by simp [Op.operands, Call.operands])
          (repeat' split at h) <;> first | (cases h; done) | (cases h; simp [eff, e1, e2])
        · cases h
      case append =>
        split at h
        · rename_i t u x y ht hx
          have e := list_two hx
          subst e
          have e1 := hρ x (by simp [Op.operands, Call.operands])
          have e2 := hρ y (by simp [Op.operands, Call.operands])
          (repeat' split at h) <;> first | (cases h; done) | (cases h; simp [eff, e1, e2])
        · cases h
      all_goals
        obtain ⟨x, y, hx, ⟨_, rfl⟩ | ⟨_, rfl⟩⟩ := compBi_spec h
        all_goals
          have e := list_two hx
          subst e
          have e1 := hρ x (by simp [Op.operands, Call.operands])
          have e2 := hρ y (by simp [Op.operands, Call.operands])
          simp [eff, e1, e2]
  all_goals first
    | (cases h; done)
    | (cases h; simp [Op.operands] at hρ; simp [eff, hρ]; done)
    | ((repeat' split at h) <;> first | (cases h; done) | (cases h; simp [Op.operands] at hρ; simp [eff, hρ]; done))
end Go.Proofs.YtdenddhdeloceaaGreatDoor
namespace Go.Proofs.YtdenddhdeloceaaGreatDoor
open Go.RowKit

/-- another world, in which new blocks lie, and blocks from B on that hold no cells may have changed -/
structure Side (B : Nat) (c : Cx) (W : World) : Prop where
  os : W.os = c.w.os
  tape : W.tape = c.w.tape
  output : W.output = c.w.output
  size : c.w.heap.size ≤ W.heap.size
  same : ∀ k, k < c.w.heap.size → W.heap[k]? = c.w.heap[k]? ∨ (B ≤ k ∧ ∃ o : Obj, c.w.heap[k]? = some o ∧ o.isCells = false)
theorem Side.refl (B : Nat) (c : Cx) : Side B c c.w := ⟨rfl, rfl, rfl, Nat.le_refl _, fun _ _ => .inl rfl⟩
theorem Side.cells {B : Nat} {c : Cx} {W : World} (h : Side B c W) {b : Nat} {cs : Array Value} {e : TypeId} {f : Nat × Nat} (k : c.w.heap[b]? = some (.cells cs e f)) : W.heap[b]? = some (.cells cs e f) := by
  rcases h.same b (Array.getElem?_eq_some_iff.1 k).1 with h1 | ⟨_, o, h1, h2⟩
  · rw [h1, k]
  · rw [k] at h1; cases h1; cases h2
theorem Side.cell {B : Nat} {c : Cx} {W : World} (h : Side B c W) {a : Addr} {u : Value} (k : c.w.cell? a = some u) : W.cell? a = some u := by
  have hc : ∃ cs e f, c.w.heap[a.block]? = some (.cells cs e f) := by
    unfold World.cell? at k
    split at k
    · rename_i h9; exact ⟨_, _, _, h9⟩
    · cases k
  obtain ⟨cs, e, f, hc⟩ := hc
  exact (World.cell?_of_block (w := c.w) ((h.cells hc).trans hc.symm)).trans k
theorem Side.grown {B : Nat} {c : Cx} {W : World} {row : Option Nat} (h : c.w.grownBy W row) (hr : ∀ r, row = some r → B ≤ r ∧ ∃ o : Obj, c.w.heap[r]? = some o ∧ o.isCells = false) : Side B c W :=
  ⟨h.os, h.tape, h.output, h.size, fun k hk => by
    by_cases e : some k = row
    · exact .inr (hr k e.symm)
    · exact .inl (h.block k hk e)⟩
theorem Side.wok {B : Nat} {c : Cx} {W : World} (h : Side B c W) {k : WK} {b n : Nat} (hk : c.wok k b n) : (c.at W).wok k b n := by
  obtain ⟨h1, h2, h3, h4, sz, ⟨cs, e, h5, h6⟩, h7⟩ := hk
  exact ⟨h1, h2, h3, h4, sz, ⟨cs, e, h.cells h5, h6⟩, h7⟩
mutual
theorem VR.side {B : Nat} {c : Cx} {W : World} (g : Side B c W) : ∀ {a : AV} {u : Value}, VR c a u → VR (c.at W) a u
  | .any, u, _ => trivial
  | .v x, u, h => h
  | .fs fr cs m, u, h => by
    obtain ⟨A, k, rfl, hk, hc⟩ := h
    refine ⟨A, k, rfl, hk, fun hne => ?_⟩
    obtain ⟨b, off, rfl, hlt, ho, hm⟩ := hc hne
    exact ⟨b, off, rfl, Nat.lt_of_lt_of_le hlt g.size, ho, VRm.side g hm⟩
  | .fp fr cs m, u, h => by
    obtain ⟨b, off, rfl, hlt, ho, hm⟩ := h
    exact ⟨b, off, rfl, Nat.lt_of_lt_of_le hlt g.size, ho, VRm.side g hm⟩
  | .os id off m sz, u, h => by
    obtain ⟨A, k, rfl, hk, hc⟩ := h
    refine ⟨A, k, rfl, hk, ?_⟩
    rcases hc with ⟨h1, h2⟩ | ⟨b, h1, rfl, cs, e, f, h2, h3⟩
    · exact .inl ⟨h1, h2⟩
    · exact .inr ⟨b, h1, rfl, cs, e, f, g.cells h2, h3⟩
  | .op id off, u, h => h
  | .agg l, u, h => by
    obtain ⟨us, rfl, h⟩ := h
    exact ⟨us, rfl, VRl.side g h⟩
  | .tup l, u, h => by
    obtain ⟨us, rfl, h⟩ := h
    exact ⟨us, rfl, VRt.side g h⟩
  | .fn f l, u, h => by
    obtain ⟨us, rfl, h⟩ := h
    exact ⟨us, rfl, VRt.side g h⟩
  | .ws k m, u, h => by
    obtain ⟨A, q, rfl, hk, hc⟩ := h
    refine ⟨A, q, rfl, hk, fun hne => ?_⟩
    obtain ⟨b, off, rfl, hw⟩ := hc hne
    exact ⟨b, off, rfl, g.wok hw⟩
  | .wp k, u, h => by
    obtain ⟨b, off, rfl, hw⟩ := h
    exact ⟨b, off, rfl, g.wok hw⟩
  | .wv k, u, h => h
  | .us fr e cs m, u, h => by
    obtain ⟨A, k, rfl, hk, hc⟩ := h
    refine ⟨A, k, rfl, hk, fun hne => ?_⟩
    obtain ⟨b, rfl, ho, ⟨vs, hv⟩, hm⟩ := hc hne
    exact ⟨b, rfl, ho, ⟨vs, g.cells hv⟩, VRm.side g hm⟩
  | .ifc t a, u, h => by
    obtain ⟨v, rfl, h⟩ := h
    exact ⟨v, rfl, VR.side g h⟩
theorem VRm.side {B : Nat} {c : Cx} {W : World} (g : Side B c W) {b : Nat} : ∀ {cs : List AV} {off : Nat}, VRm c b off cs → VRm (c.at W) b off cs
  | [], _, _ => trivial
  | a :: r, off, h => by
    rw [VRm] at h ⊢
    obtain ⟨⟨u, h1, h2, h3⟩, h4⟩ := h
    exact ⟨⟨u, g.cell h1, h2, VR.side g h3⟩, VRm.side g h4⟩
theorem VRl.side {B : Nat} {c : Cx} {W : World} (g : Side B c W) : ∀ {cs : List AV} {us : List Value}, VRl c cs us → VRl (c.at W) cs us
  | [], _, h => h
  | a :: r, us, h => by
    rw [VRl] at h ⊢
    obtain ⟨u, us', rfl, h1, h2, h3⟩ := h
    exact ⟨u, us', rfl, h1, VR.side g h2, VRl.side g h3⟩
theorem VRt.side {B : Nat} {c : Cx} {W : World} (g : Side B c W) : ∀ {cs : List AV} {us : List Value}, VRt c cs us → VRt (c.at W) cs us
  | [], _, h => h
  | a :: r, us, h => by
    rw [VRt] at h ⊢
    obtain ⟨u, us', rfl, h2, h3⟩ := h
    exact ⟨u, us', rfl, VR.side g h2, VRt.side g h3⟩
end
theorem HR.side {B : Nat} {c : Cx} {W : World} (h : HR c) (g : Side B c W) : HR (c.at W) := by
  refine ⟨fun id y e cells hs => ?_, h.inj, Nat.le_trans h.base g.size, fun b hb => Nat.lt_of_lt_of_le (h.xlt b hb) g.size, fun b v hb => ⟨g.cell (h.gl b v hb).1, (h.gl b v hb).2⟩⟩
  rcases h.row id y e cells hs with h1 | ⟨b, cs, h1, h2, h3, h4, h5⟩
  · exact .inl h1
  · refine .inr ⟨b, cs, h1, g.cells h2, h3, h4, fun j a hj => ?_⟩
    obtain ⟨u, k1, k2, k3⟩ := h5 j a hj
    exact ⟨u, k1, k2, k3.side g⟩
theorem Grow.side {B : Nat} {c d : Cx} {W : World} (h : Grow c d) (g : Side B d W) (hB : c.w.heap.size ≤ B) : Grow c (d.at W) := by
  refine ⟨h.X, h.B, g.output.trans h.out, g.os.trans h.osE, g.tape.trans h.tape, Nat.le_trans h.size g.size, fun b hb ht hy => ?_, h.held, fun b cs e f hc => ?_, h.Y, fun b k sz h1 h2 h3 h4 h5 => ?_⟩
  · rcases g.same b (Nat.lt_of_lt_of_le hb h.size) with h1 | ⟨h1, _⟩
    · exact h1.trans (h.stay b hb ht hy)
    · omega
  · obtain ⟨cs', f', h1, h2⟩ := h.shape b cs e f hc
    exact ⟨cs', f', g.cells h1, h2⟩
  · obtain ⟨cs, e, h6, h7⟩ := h.wild b k sz h1 h2 h3 h4 h5
    exact ⟨cs, e, g.cells h6, h7⟩

/-- the names that satisfy p are there, each at what it says -/
def Al0 (p : Nat → Prop) (c d : Cx) : Prop := ∀ id x, p id → c.φ id = some x → d.φ id = some x
mutual
def AlN (p : Nat → Prop) : AV → Prop
  | .any | .v _ | .ws _ _ | .wp _ | .wv _ => True
  | .fs _ cs _ | .fp _ cs _ | .agg cs | .tup cs | .fn _ cs | .us _ _ cs _ => AlNL p cs
  | .ifc _ a => AlN p a
  | .os id _ _ _ | .op id _ => p id
def AlNL (p : Nat → Prop) : List AV → Prop
  | [] => True
  | a :: r => AlN p a ∧ AlNL p r
end
mutual
theorem VR.monoP {p : Nat → Prop} {c d : Cx} (g : Grow c d) (n : Al0 p c d) : ∀ {a : AV} {u : Value}, AlN p a → VR c a u → VR d a u
  | .any, u, _, _ => trivial
  | .v x, u, _, h => h
  | .fs fr cs m, u, q, h => by
    obtain ⟨A, k, rfl, hk, hc⟩ := h
    refine ⟨A, k, rfl, hk, fun hne => ?_⟩
    obtain ⟨b, off, rfl, hlt, ho, hm⟩ := hc hne
    exact ⟨b, off, rfl, Nat.lt_of_lt_of_le hlt g.size, g.okk ho hlt, VRm.monoP g n q ho.2.1 ho.2.2 hm⟩
  | .fp fr cs m, u, q, h => by
    obtain ⟨b, off, rfl, hlt, ho, hm⟩ := h
    exact ⟨b, off, rfl, Nat.lt_of_lt_of_le hlt g.size, g.okk ho hlt, VRm.monoP g n q ho.2.1 ho.2.2 hm⟩
  | .os id off m sz, u, q, h => by
    obtain ⟨A, k, rfl, hk, hc⟩ := h
    refine ⟨A, k, rfl, hk, ?_⟩
    rcases hc with ⟨h1, h2⟩ | ⟨b, h1, rfl, cs, e, f, h2, h3⟩
    · obtain ⟨x, hx⟩ := Option.ne_none_iff_exists'.1 h1
      exact .inl ⟨by rw [n _ _ q hx]; simp, h2⟩
    · obtain ⟨cs', f', h4, h5⟩ := g.shape b cs e f h2
      exact .inr ⟨b, n _ _ q h1, rfl, cs', e, f', h4, by omega⟩
  | .op id off, u, q, h => by
    obtain ⟨b, h1, rfl⟩ := h
    exact ⟨b, n _ _ q h1, rfl⟩
  | .agg l, u, q, h => by
    obtain ⟨us, rfl, h⟩ := h
    exact ⟨us, rfl, VRl.monoP g n q h⟩
  | .tup l, u, q, h => by
    obtain ⟨us, rfl, h⟩ := h
    exact ⟨us, rfl, VRt.monoP g n q h⟩
  | .fn f l, u, q, h => by
    obtain ⟨us, rfl, h⟩ := h
    exact ⟨us, rfl, VRt.monoP g n q h⟩
  | .ws k m, u, q, h => by
    obtain ⟨A, r, rfl, hk, hc⟩ := h
    refine ⟨A, r, rfl, hk, fun hne => ?_⟩
    obtain ⟨b, off, rfl, hw⟩ := hc hne
    exact ⟨b, off, rfl, g.wokk hw⟩
  | .wp k, u, q, h => by
    obtain ⟨b, off, rfl, hw⟩ := h
    exact ⟨b, off, rfl, g.wokk hw⟩
  | .wv k, u, _, h => h
  | .us fr e cs m, u, q, h => by
    obtain ⟨A, k, rfl, hk, hc⟩ := h
    refine ⟨A, k, rfl, hk, fun hne => ?_⟩
    obtain ⟨b, rfl, ho, ⟨vs, hv⟩, hm⟩ := hc hne
    have hlt := (Array.getElem?_eq_some_iff.1 hv).1
    exact ⟨b, rfl, g.okk ho hlt, ⟨vs, (g.stay b hlt ho.2.1 (fun h => absurd h ho.2.2)).trans hv⟩, VRm.monoP g n q ho.2.1 ho.2.2 hm⟩
  | .ifc t a, u, q, h => by
    obtain ⟨v, rfl, h⟩ := h
    exact ⟨v, rfl, VR.monoP g n q h⟩
theorem VRm.monoP {p : Nat → Prop} {c d : Cx} (g : Grow c d) (n : Al0 p c d) {b : Nat} : ∀ {cs : List AV} {off : Nat}, AlNL p cs → ¬ c.T b → ¬ c.X b → VRm c b off cs → VRm d b off cs
  | [], _, _, _, _, _ => trivial
  | a :: r, off, q, hb, hx, h => by
    rw [VRm] at h ⊢
    obtain ⟨⟨u, h1, h2, h3⟩, h4⟩ := h
    exact ⟨⟨u, (World.cell?_of_block (w := c.w) (g.stay b (cell_lt h1) hb (fun h => absurd h hx))).trans h1, h2, VR.monoP g n q.1 h3⟩, VRm.monoP g n q.2 hb hx h4⟩
theorem VRl.monoP {p : Nat → Prop} {c d : Cx} (g : Grow c d) (n : Al0 p c d) : ∀ {cs : List AV} {us : List Value}, AlNL p cs → VRl c cs us → VRl d cs us
  | [], _, _, h => h
  | a :: r, us, q, h => by
    rw [VRl] at h ⊢
    obtain ⟨u, us', rfl, h1, h2, h3⟩ := h
    exact ⟨u, us', rfl, h1, VR.monoP g n q.1 h2, VRl.monoP g n q.2 h3⟩
theorem VRt.monoP {p : Nat → Prop} {c d : Cx} (g : Grow c d) (n : Al0 p c d) : ∀ {cs : List AV} {us : List Value}, AlNL p cs → VRt c cs us → VRt d cs us
  | [], _, _, h => h
  | a :: r, us, q, h => by
    rw [VRt] at h ⊢
    obtain ⟨u, us', rfl, h2, h3⟩ := h
    exact ⟨u, us', rfl, VR.monoP g n q.1 h2, VRt.monoP g n q.2 h3⟩
end

/-- the same moment, other bounds of what may become of another's -/
def Cx.reY (c : Cx) (Y : Nat → WK) : Cx := { c with Y := Y }
mutual
theorem VR.reY {Y : Nat → WK} {c : Cx} (hk : ∀ k b n, c.wok k b n → (c.reY Y).wok k b n) : ∀ {a : AV} {u : Value}, VR c a u → VR (c.reY Y) a u
  | .any, u, _ => trivial
  | .v x, u, k => k
  | .wv q, u, k => k
  | .ifc t a, u, k => by obtain ⟨v, rfl, k⟩ := k; exact ⟨v, rfl, VR.reY hk k⟩
  | .fs fr cs n, u, k => by
    obtain ⟨A, k', rfl, hk', hm⟩ := k
    refine ⟨A, k', rfl, hk', fun h0 => ?_⟩
    obtain ⟨b, off, rfl, e1, e2, e3⟩ := hm h0
    exact ⟨b, off, rfl, e1, e2, VRm.reY hk e3⟩
  | .fp fr cs n, u, k => by
    obtain ⟨b, off, rfl, e1, e2, e3⟩ := k
    exact ⟨b, off, rfl, e1, e2, VRm.reY hk e3⟩
  | .us fr e cs n, u, k => by
    obtain ⟨A, k', rfl, hk', hm⟩ := k
    refine ⟨A, k', rfl, hk', fun h0 => ?_⟩
    obtain ⟨b, rfl, e2, e1, e3⟩ := hm h0
    exact ⟨b, rfl, e2, e1, VRm.reY hk e3⟩
  | .os _ _ _ _, u, k => k
  | .op _ _, u, k => k
  | .ws q n, u, k => by
    obtain ⟨A, r, rfl, h1, h2⟩ := k
    refine ⟨A, r, rfl, h1, fun h0 => ?_⟩
    obtain ⟨b, off, rfl, e1⟩ := h2 h0
    exact ⟨b, off, rfl, hk _ _ _ e1⟩
  | .wp q, u, k => by
    obtain ⟨b, off, rfl, e1⟩ := k
    exact ⟨b, off, rfl, hk _ _ _ e1⟩
  | .agg l, u, k => by obtain ⟨us, rfl, k⟩ := k; exact ⟨us, rfl, VRl.reY hk k⟩
  | .tup l, u, k => by obtain ⟨us, rfl, k⟩ := k; exact ⟨us, rfl, VRt.reY hk k⟩
  | .fn f l, u, k => by obtain ⟨us, rfl, k⟩ := k; exact ⟨us, rfl, VRt.reY hk k⟩
theorem VRm.reY {Y : Nat → WK} {c : Cx} (hk : ∀ k b n, c.wok k b n → (c.reY Y).wok k b n) {b : Nat} : ∀ {cs : List AV} {off : Nat}, VRm c b off cs → VRm (c.reY Y) b off cs
  | [], _, _ => trivial
  | a :: r, off, k => by
    rw [VRm] at k ⊢
    obtain ⟨⟨u, h1, h2, h3⟩, h4⟩ := k
    exact ⟨⟨u, h1, h2, VR.reY hk h3⟩, VRm.reY hk h4⟩
theorem VRl.reY {Y : Nat → WK} {c : Cx} (hk : ∀ k b n, c.wok k b n → (c.reY Y).wok k b n) : ∀ {cs : List AV} {us : List Value}, VRl c cs us → VRl (c.reY Y) cs us
  | [], _, k => k
  | a :: r, us, k => by
    rw [VRl] at k ⊢
    obtain ⟨u, us', rfl, h1, h2, h3⟩ := k
    exact ⟨u, us', rfl, h1, VR.reY hk h2, VRl.reY hk h3⟩
theorem VRt.reY {Y : Nat → WK} {c : Cx} (hk : ∀ k b n, c.wok k b n → (c.reY Y).wok k b n) : ∀ {cs : List AV} {us : List Value}, VRt c cs us → VRt (c.reY Y) cs us
  | [], _, k => k
  | a :: r, us, k => by
    rw [VRt] at k ⊢
    obtain ⟨u, us', rfl, h2, h3⟩ := k
    exact ⟨u, us', rfl, VR.reY hk h2, VRt.reY hk h3⟩
end
theorem HR.reY {Y : Nat → WK} {c : Cx} (h : HR c) (hgY : ∀ b v, GLOB b = some v → c.X b → Y b = .no) (hk : ∀ k b n, c.wok k b n → (c.reY Y).wok k b n) : HR (c.reY Y) := by
  refine ⟨fun id y e cells hs => ?_, h.inj, h.base, h.xlt, fun b v hb => ⟨(h.gl b v hb).1, (h.gl b v hb).2.1, hgY b v hb⟩⟩
  rcases h.row id y e cells hs with h1 | ⟨b, cs, h1, h2, h3, h4, h5⟩
  · exact .inl h1
  · refine .inr ⟨b, cs, h1, h2, h3, h4, fun j x hj => ?_⟩
    obtain ⟨u, k1, k2, k3⟩ := h5 j x hj
    exact ⟨u, k1, k2, k3.reY hk⟩
end Go.Proofs.YtdenddhdeloceaaGreatDoor
namespace Go.Proofs.YtdenddhdeloceaaGreatDoor
open Go.RowKit
variable {P : Program} {ops : Array Oper} {N nx : Nat}

structure ASt where
  env : Nat → AV
  σ : Heap
  nx : Nat
def evA (env : Nat → AV) : Operand → AV
  | .tmp t => env t
  | .const v => .v v
  | .global _ => .any
  | .func f => .fn f []
def putE (env : Nat → AV) (d : Option Nat) (x : AV) : Nat → AV :=
  match d with
  | some d => fun t => if t = d then x else env t
  | none => env
def enters (P : Program) (f : FuncId) : Bool :=
  match P.funcs[f]? with
  | some fn => !(fn.name == "runtime.NumGoroutine") && fn.body.isSome
  | none => false
/-- A call of function f with such arguments does what am says. -/
def ASound (P : Program) (f : FuncId) (args : List AV) (nb : Nat) (am : AM) : Prop :=
  enters P f = true ∧ ∀ (c : Cx) (us : List Value) r R W, am.run c.σ = some (r, R, W) → HR c → (∀ id, nb ≤ id → c.φ id = none ∨ nb + 100000 ≤ id) → VRt c args us →
    Calls P f us.toArray c.w fun e w' => ∃ v d, e = .returned v ∧ d.w = w' ∧ VR d r v ∧ Then c nb W d

def DoesA (P : Program) (env : Nat → AV) (nb : Nat) (m : AM) (ao : AO) : Prop :=
  match ao with
  | .call f args => ASound P f (args.map (evA env)) nb m
  | .callv g args => ∃ f caps, evA env g = .fn f caps ∧ ASound P f (args.map (evA env) ++ caps) nb m
  | ao => m = eff (evA env) nb ao
def Does (P : Program) (o : Oper) (env : Nat → AV) (nb : Nat) (m : AM) : Prop := ∃ ao, compOp P o = some ao ∧ DoesA P env nb m ao

/-- One operation of a trace: what it did, or that its guard let it not. -/
structure TE where
  i : Nat
  o : Oper
  am : Option AM
  r : AV
  R : List Nat
  W : List (Nat × Option AObj)
def GuardIs (ops : Array Oper) (o : Oper) (env : Nat → AV) (yes : Bool) : Prop :=
  ∃ j want o' s, o.guard = some (j, want) ∧ ops[j]? = some o' ∧ o'.dst = some s ∧ ((∃ b, env s = .v (.bool b) ∧ (b == want) = yes) ∨ (yes = false ∧ ∃ t, env s = .v (.tuple t)))
def TOk (P : Program) (ops : Array Oper) (N nx : Nat) (e : TE) (st : ASt) : Prop :=
  ops[e.i]? = some e.o ∧ (∀ d, e.o.dst = some d → d < N) ∧
  match e.am with
  | none => e.r = .v undef ∧ e.R = [] ∧ e.W = [] ∧ GuardIs ops e.o st.env false
  | some m => (e.o.guard = none ∨ GuardIs ops e.o st.env true) ∧ m.run st.σ = some (e.r, e.R, e.W) ∧ Does P e.o st.env (nx + 100000 * e.i) m
def TE.next (e : TE) (st : ASt) : ASt := ⟨putE st.env e.o.dst e.r, app st.σ e.W, st.nx⟩

/-- the slots hold what is known of them; memory what is held; names from nx on stand for what the region's done operations made -/
structure RelR (N nx : Nat) (done : Nat → Prop) (c : Cx) (st : ASt) (a : Act) : Prop where
  size : a.tmps.size = N
  env : ∀ t, VR c (st.env t) (a.tmps.getD t undef)
  hr : HR c
  σ : c.σ = st.σ
  fresh : ∀ id, nx ≤ id → c.φ id ≠ none → ∃ j, done j ∧ nx + 100000 * j ≤ id ∧ id < nx + 100000 * j + 100000

/-- Later, and the names below nx as they were. -/
structure Later (nx : Nat) (c d : Cx) : Prop where
  grow : Grow c d
  names : Names c d
  low : ∀ id, id < nx → d.φ id = c.φ id
theorem Later.refl (c : Cx) : Later nx c c := ⟨Grow.refl c, Names.refl c, fun _ _ => rfl⟩
theorem Later.trans {a b c : Cx} (h : Later nx a b) (k : Later nx b c) : Later nx a c := ⟨h.grow.trans k.grow, h.names.trans k.names, fun id hid => (k.low id hid).trans (h.low id hid)⟩
theorem Then.later {c d : Cx} {nb : Nat} {W : List (Nat × Option AObj)} (h : Then c nb W d) (hn : nx ≤ nb) : Later nx c d := by
  refine ⟨h.grow, h.names, fun id hid => ?_⟩
  cases hc : c.φ id with
  | some x => exact h.names id x hc
  | none =>
    cases hd : d.φ id with
    | none => rfl
    | some y =>
      rcases h.fresh id (by rw [hd]; simp) with h1 | h1
      · exact absurd hc h1
      · omega

theorem RelR.eval {done : Nat → Prop} {c : Cx} {st : ASt} {a : Act} (h : RelR N nx done c st a) (x : Operand) : VR c (evA st.env x) (a.eval x) := by
  cases x with
  | tmp t => exact h.env t
  | const v => exact rfl
  | global g => trivial
  | func f => exact ⟨[], rfl, rfl⟩
theorem RelR.put {done done' : Nat → Prop} {c d : Cx} {st : ASt} {a : Act} (h : RelR N nx done c st a) {i : Nat} {W : List (Nat × Option AObj)} (T : Then c (nx + 100000 * i) W d) {r : AV} {v : Value} (hv : VR d r v) {o : Option Nat} (ho : ∀ t, o = some t → t < N)
    (hd : ∀ j, done j ∨ j = i → done' j) : RelR N nx done' d ⟨putE st.env o r, app st.σ W, st.nx⟩ (a.put o v) := by
  refine ⟨by cases o <;> simp [Act.put, h.size], fun t => ?_, T.hr, by rw [T.σ, h.σ], fun id hid hne => ?_⟩
  · cases o with
    | none => exact (h.env t).mono T.grow T.names
    | some k =>
      have hk := ho k rfl
      simp only [putE, Act.put]
      by_cases e : t = k
      · subst e
        rw [if_pos rfl]
        have : (a.tmps.setIfInBounds t v).getD t undef = v := by simp [h.size, hk]
        rw [this]; exact hv
      · rw [if_neg e]
        have : (a.tmps.setIfInBounds k v).getD t undef = a.tmps.getD t undef := by simp [Array.getElem?_setIfInBounds_ne (Ne.symm e)]
        rw [this]; exact (h.env t).mono T.grow T.names
  · rcases T.fresh id hne with h1 | h1
    · obtain ⟨j, h2, h3⟩ := h.fresh id hid h1
      exact ⟨j, hd j (.inl h2), h3⟩
    · exact ⟨i, hd i (.inr rfl), h1⟩
theorem RelR.skip {done done' : Nat → Prop} {c : Cx} {st : ASt} {a : Act} (h : RelR N nx done c st a) {o : Option Nat} (ho : ∀ t, o = some t → t < N) (hd : ∀ j, done j → done' j) : RelR N nx done' c ⟨putE st.env o (.v undef), app st.σ [], st.nx⟩ (a.put o undef) := by
  refine ⟨by cases o <;> simp [Act.put, h.size], fun t => ?_, h.hr, h.σ, fun id hid hne => ?_⟩
  · cases o with
    | none => exact h.env t
    | some k =>
      have hk := ho k rfl
      simp only [putE, Act.put]
      by_cases e : t = k
      · subst e
        rw [if_pos rfl]
        have : (a.tmps.setIfInBounds t undef).getD t undef = undef := by simp [h.size, hk]
        rw [this]; exact rfl
      · rw [if_neg e]
        have : (a.tmps.setIfInBounds k undef).getD t undef = a.tmps.getD t undef := by simp [Array.getElem?_setIfInBounds_ne (Ne.symm e)]
        rw [this]; exact h.env t
  · obtain ⟨j, h2, h3⟩ := h.fresh id hid hne
    exact ⟨j, hd j h2, h3⟩

theorem guard_wanted {done : Nat → Prop} {c : Cx} {st : ASt} {a : Act} (h : RelR N nx done c st a) {o : Oper} {yes : Bool} (hg : GuardIs ops o st.env yes) : Region.wanted o (yielded ops a.tmps) = yes := by
  obtain ⟨j, want, o', s, h1, h2, h3, h45⟩ := hg
  have := h.env s
  rcases h45 with ⟨b, h4, h5⟩ | ⟨rfl, tt, h4⟩
  case inr =>
    rw [h4] at this
    have e : a.tmps.getD s undef = .tuple tt := this
    unfold Region.wanted
    rw [h1]
    simp only [yielded, h2, Option.bind_some, h3]
    rw [Array.getD_eq_getD_getElem?] at e
    cases hq : a.tmps[s]? with
    | none => rfl
    | some q => rw [hq] at e; simp at e; subst e; rfl
  rw [h4] at this
  have e : a.tmps.getD s undef = .bool b := this
  have e2 : a.tmps[s]? = some (.bool b) := by
    rw [Array.getD_eq_getD_getElem?] at e
    cases hq : a.tmps[s]? with
    | none => rw [hq] at e; simp [undef] at e
    | some q => rw [hq] at e; simp at e; rw [e]
  unfold Region.wanted
  rw [h1]
  simp only [yielded, h2, Option.bind_some, h3, e2]
  rw [← h5]
  cases b <;> cases want <;> rfl
theorem run_callFunc {f : FuncId} (h : enters P f = true) (args : Array Value) (w : World) : (callFunc f args).run P w = .ok (.enter f args) w := by
  unfold enters at h
  split at h
  · rename_i fn hf
    simp at h
    obtain ⟨h1, h2⟩ := h
    have h3 : fn.body.isNone = false := by cases hb : fn.body <;> simp_all
    simp [callFunc, hf, h1, h3]
    intro h9
    rw [h9] at h2
    cases h2
  · cases h
theorem put_defers (a : Act) (d : Option Nat) (v : Value) : (a.put d v).defers = a.defers := by cases d <;> rfl
/-- in whatever round -/
def FR (ro : Option Nat) : Fence := { fn := fun _ => True, depth := none, alive := false, round := ro }
theorem callsIn_FR {ro : Option Nat} {n : Nat} {f : FuncId} {args : Array Value} {w : World} {R : Ending → World → Prop} (h : Calls P f args w R) : CallsIn (FR ro) n P f args w R := by
  have h2 : CallsIn Fence.wide n P f args w R := callsIn_wide.2 h
  exact h2
theorem no_defer {o : Oper} {ao : AO} (h : compOp P o = some ao) : ∀ c, o.op ≠ .defer c := by
  intro c e
  unfold compOp at h
  rw [e] at h
  cases h
theorem calls_wp {ro : Option Nat} {rm : Nat} {o : Oper} {ao : AO} (hco : compOp P o = some ao) {a : Act} {c : Cx} {f : FuncId} {us : List Value} {K : Act → World → Prop} {Q : Exit → Act → World → Prop} (hrun : (execOp a.eval o).run P c.w = .ok (.enter f us.toArray) c.w) {nb : Nat} {r : AV} {W : List (Nat × Option AObj)}
    (h : Calls P f us.toArray c.w fun e w' => ∃ v d, e = .returned v ∧ d.w = w' ∧ VR d r v ∧ Then c nb W d) (hK : ∀ v d, VR d r v → Then c nb W d → K (a.put o.dst v) d.w) : o.wpIn (FR ro) rm P a c.w K Q := by
  refine ⟨fun _ _ => trivial, ?_⟩
  rw [Oper.semAt_eq _ _ _ (no_defer hco), hrun, Oper.uponIn_enter]
  refine ⟨fun h => by simp [FR] at h, callsIn_FR (h.mono ?_)⟩
  rintro e w' ⟨v, d, rfl, rfl, h1, h2⟩
  exact hK v d h1 h2
theorem comp_call {o : Oper} {f : Nat} {args : List Operand} (h : compOp P o = some (.call f args)) : ∃ cl, o.op = .call cl ∧ cl.callee = .value (.func f) ∧ cl.args.toList = args := by
  unfold compOp compEq compEqs at h
  split at h <;> try ((repeat' split at h) <;> cases h; done)
  rename_i cl hop
  split at h <;> try (first | ((repeat' split at h) <;> cases h; done) | (obtain ⟨x, y, _, ⟨_, h1⟩ | ⟨_, h1⟩⟩ := compBi_spec h <;> cases h1; done))
  rename_i f' hc
  cases h
  exact ⟨cl, hop, hc, rfl⟩
theorem comp_callv {o : Oper} {g : Operand} {args : List Operand} (h : compOp P o = some (.callv g args)) : ∃ cl, o.op = .call cl ∧ cl.callee = .value g ∧ cl.args.toList = args := by
  unfold compOp compEq compEqs at h
  split at h <;> try ((repeat' split at h) <;> cases h; done)
  rename_i cl hop
  split at h <;> try (first | ((repeat' split at h) <;> cases h; done) | (obtain ⟨x, y, _, ⟨_, h1⟩ | ⟨_, h1⟩⟩ := compBi_spec h <;> cases h1; done))
  rename_i f' hne hc
  cases h
  exact ⟨cl, hop, hc, rfl⟩
/-- one operation -/
theorem entry_wp {ro : Option Nat} {rm : Nat} {done done' : Nat → Prop} {c : Cx} {st : ASt} {a : Act} (h : RelR N nx done c st a) {e : TE} (he : TOk P ops N nx e st) (hi : ¬ done e.i) (hd : ∀ j, done j ∨ j = e.i → done' j) {K : Act → World → Prop} {Q : Exit → Act → World → Prop}
    (hK : ∀ c' a', Later nx c c' → a'.defers = a.defers → RelR N nx done' c' (e.next st) a' → K a' c'.w) : wpOpIn (FR ro) rm P ops Q e.i K a c.w := by
  obtain ⟨h1, h2, h3⟩ := he
  unfold wpOpIn
  rw [h1]
  simp only
  have hfr : ∀ id, nx + 100000 * e.i ≤ id → c.φ id = none ∨ nx + 100000 * e.i + 100000 ≤ id := by
    intro id hid
    cases hc : c.φ id with
    | none => exact .inl rfl
    | some x =>
      obtain ⟨j, hj, h4, h5⟩ := h.fresh id (by omega) (by rw [hc]; simp)
      right
      have : j ≠ e.i := fun e1 => hi (e1 ▸ hj)
      omega
  cases ham : e.am with
  | none =>
    rw [ham] at h3
    obtain ⟨e1, e2, e3, e4⟩ := h3
    rw [guard_wanted h e4, if_neg (by decide)]
    refine ⟨fun _ _ => trivial, ?_⟩
    refine hK c _ (Later.refl c) (put_defers ..) ?_
    have := h.skip (done' := done') h2 (fun j hj => hd j (.inl hj))
    unfold TE.next
    rw [e1, e3]; exact this
  | some m =>
    rw [ham] at h3
    obtain ⟨g, hrun, ao, hao, hdo⟩ := h3
    have hw : Region.wanted e.o (yielded ops a.tmps) = true := by
      rcases g with g | g
      · simp [Region.wanted, g]
      · exact guard_wanted h g
    rw [hw, if_pos rfl]
    have hrun' : m.run c.σ = some (e.r, e.R, e.W) := by rw [h.σ]; exact hrun
    have main : ∀ v d, VR d e.r v → Then c (nx + 100000 * e.i) e.W d → K (a.put e.o.dst v) d.w := fun v d hv T => hK d _ (T.later (by omega)) (put_defers ..) (h.put T hv h2 hd)
    have effcase : m = eff (evA st.env) (nx + 100000 * e.i) ao → e.o.wpIn (FR ro) rm P a c.w K Q := by
      intro hm
      subst hm
      obtain ⟨nxt, v, d, k1, k2, k3, k4⟩ := eff_sound (nb := nx + 100000 * e.i) hao h.eval (fun _ => rfl) _ _ _ hrun' h.hr hfr
      refine ⟨fun _ _ => trivial, ?_⟩
      rw [Oper.semAt_eq _ _ _ (no_defer hao), k1]
      rcases k2 with rfl | ⟨rfl, rfl⟩
      · exact main v d k3 k4
      · exact main undef d k3 k4
    cases ao with
    | call f args =>
      obtain ⟨hent, hs⟩ := hdo
      have hop := comp_call hao
      obtain ⟨cl, e1, e2, rfl⟩ := hop
      refine calls_wp hao (f := f) (us := cl.args.toList.map a.eval) ?_ (hs c _ _ _ _ hrun' h.hr hfr (VRt_map h.eval _)) main
      simp only [execOp, e1, resolve, e2, show a.eval (.func f) = .func (.func f) #[] #[] from rfl, Deferred.ofValue, invoke, Sem.run_bind, Sem.run_pure, Result.andThen_ok]
      simp [run_callFunc hent]
      apply Array.ext'
      simp
    | callv g args =>
      obtain ⟨f, caps, hg, hent, hs⟩ := hdo
      have hop := comp_callv hao
      obtain ⟨cl, e1, e2, rfl⟩ := hop
      have hgv := h.eval g
      rw [hg] at hgv
      obtain ⟨us, hgu, hus⟩ := hgv
      have happ : ∀ {l1 l2 : List AV} {u1 u2 : List Value}, VRt c l1 u1 → VRt c l2 u2 → VRt c (l1 ++ l2) (u1 ++ u2) := by
        intro l1
        induction l1 with
        | nil => intro l2 u1 u2 h1 h2; rw [VRt] at h1; subst h1; exact h2
        | cons x l1 ih =>
          intro l2 u1 u2 h1 h2
          rw [VRt] at h1
          obtain ⟨u, us', rfl, h3, h4⟩ := h1
          exact ⟨u, us' ++ u2, rfl, h3, ih h4 h2⟩
      refine calls_wp hao (f := f) (us := cl.args.toList.map a.eval ++ us) ?_ (hs c _ _ _ _ hrun' h.hr hfr (happ (VRt_map h.eval _) hus)) main
      simp only [execOp, e1, resolve, e2, hgu, Deferred.ofValue, invoke, Sem.run_bind, Sem.run_pure, Result.andThen_ok]
      simp [run_callFunc hent]
    | _ => exact effcase hdo
end Go.Proofs.YtdenddhdeloceaaGreatDoor
namespace Go.Proofs.YtdenddhdeloceaaGreatDoor
open Go.RowKit
variable {P : Program} {ops : Array Oper} {N nx : Nat}

theorem AM.run_congr {σ σ' : Heap} : ∀ {m : AM} {r : AV} {R : List Nat} {W : List (Nat × Option AObj)}, m.run σ = some (r, R, W) → (∀ id ∈ R, σ' id = σ id) → m.run σ' = some (r, R, W)
  | .fail, _, _, _, h, _ => by cases h
  | .ret _ _, _, _, _, h, _ => h
  | .rd id k, r, R, W, h, hR => by
    rw [AM.run] at h ⊢
    split at h
    · rename_i o ho
      split at h
      · rename_i r' R' W' hk
        simp at h
        obtain ⟨rfl, rfl, rfl⟩ := h
        rw [hR id (by simp), ho]
        simp only
        rw [AM.run_congr hk (fun i hi => hR i (by simp [hi]))]
      · cases h
    · cases h
theorem app_out {σ : Heap} : ∀ {W : List (Nat × Option AObj)} {id : Nat}, id ∉ W.map (·.1) → app σ W id = σ id
  | [], _, _ => rfl
  | (i, o) :: W, id, h => by
    simp at h
    rw [app, app_out (by simpa using h.2)]
    simp [h.1]
theorem app_in {σ σ' : Heap} : ∀ {W : List (Nat × Option AObj)} {id : Nat}, id ∈ W.map (·.1) → app σ W id = app σ' W id
  | [], _, h => by simp at h
  | (i, o) :: W, id, h => by
    rw [app, app]
    by_cases h2 : id ∈ W.map (·.1)
    · exact app_in h2
    · rw [app_out h2, app_out h2]
      simp at h h2
      rcases h with h | ⟨a, h⟩
      · simp [h]
      · exact absurd h (h2 a)
theorem app_comm {σ : Heap} {W W' : List (Nat × Option AObj)} (h : ∀ id ∈ W.map (·.1), id ∉ W'.map (·.1)) : app (app σ W) W' = app (app σ W') W := by
  funext id
  by_cases h1 : id ∈ W.map (·.1)
  · rw [app_out (h id h1)]
    exact app_in h1
  · rw [app_out (σ := app σ W') h1]
    by_cases h2 : id ∈ W'.map (·.1)
    · exact app_in h2
    · rw [app_out h2, app_out h2, app_out h1]
theorem putE_comm {env : Nat → AV} {d d' : Option Nat} {x y : AV} (h : ∀ t, d = some t → d' ≠ some t) : putE (putE env d x) d' y = putE (putE env d' y) d x := by
  cases d with
  | none => cases d' <;> rfl
  | some t =>
    cases d' with
    | none => rfl
    | some u =>
      funext k
      have := h t rfl
      simp at this
      simp only [putE]
      by_cases e1 : k = t <;> by_cases e2 : k = u <;> simp [e1, e2]
      · omega
      · intro h9; omega
      · intro h9; omega
theorem putE_out {env : Nat → AV} {d : Option Nat} {x : AV} {t : Nat} (h : d ≠ some t) : putE env d x t = env t := by
  cases d with
  | none => rfl
  | some k => simp only [putE]; rw [if_neg]; intro e; exact h (by rw [e])

theorem TOk_congr {e : TE} {st st' : ASt} (h : TOk P ops N nx e st) (hE : ∀ t ∈ e.o.looksAt ops, st'.env t = st.env t) (hR : ∀ id ∈ e.R, st'.σ id = st.σ id) : TOk P ops N nx e st' := by
  obtain ⟨h1, h2, h3⟩ := h
  have gd : ∀ {b : Bool}, GuardIs ops e.o st.env b → GuardIs ops e.o st'.env b := by
    rintro b ⟨j, want, o', s, g1, g2, g3, g4⟩
    exact ⟨j, want, o', s, g1, g2, g3, by rw [hE s (by simp [Oper.looksAt, g1, g2, g3])]; exact g4⟩
  have op : ∀ x ∈ e.o.op.operands, evA st.env x = evA st'.env x := by
    intro x hx
    cases x with
    | tmp t => exact (hE t (by simp only [Oper.looksAt, List.mem_append, List.mem_filterMap]; exact .inl ⟨.tmp t, by simpa using hx, rfl⟩)).symm
    | _ => rfl
  refine ⟨h1, h2, ?_⟩
  cases ham : e.am with
  | none =>
    rw [ham] at h3
    obtain ⟨e1, e2, e3, e4⟩ := h3
    exact ⟨e1, e2, e3, gd e4⟩
  | some m =>
    rw [ham] at h3
    obtain ⟨g, hrun, ao, hao, hdo⟩ := h3
    refine ⟨g.imp id gd, AM.run_congr hrun hR, ao, hao, ?_⟩
    cases ao with
    | call f args =>
      obtain ⟨cl, e1, e2, rfl⟩ := comp_call hao
      have : cl.args.toList.map (evA st.env) = cl.args.toList.map (evA st'.env) := List.map_congr_left fun x hx => op x (by rw [e1]; simp [Op.operands, Call.operands]; exact .inr (by simpa using hx))
      show ASound P f (cl.args.toList.map (evA st'.env)) _ m
      rw [← this]; exact hdo
    | callv g args =>
      obtain ⟨cl, e1, e2, rfl⟩ := comp_callv hao
      obtain ⟨f, caps, hg, hs⟩ := hdo
      have : cl.args.toList.map (evA st.env) = cl.args.toList.map (evA st'.env) := List.map_congr_left fun x hx => op x (by rw [e1]; simp [Op.operands, Call.operands]; exact .inr (by simpa using hx))
      refine ⟨f, caps, by rw [← op g (by rw [e1]; simp [Op.operands, Call.operands, e2])]; exact hg, ?_⟩
      rw [← this]; exact hs
    | _ => exact (show m = _ from hdo).trans (eff_congr hao op _)

/-- two operations that do not touch each other -/
def Indep (ops : Array Oper) (x e : TE) : Prop :=
  x.o.apart ops e.o = true ∧ (∀ id ∈ x.W.map (·.1), id ∉ e.R ∧ id ∉ e.W.map (·.1)) ∧ ∀ id ∈ e.W.map (·.1), id ∉ x.R
theorem swap {x e : TE} {st : ASt} (hx : TOk P ops N nx x st) (he : TOk P ops N nx e (x.next st)) (hi : Indep ops x e) : TOk P ops N nx e st ∧ TOk P ops N nx x (e.next st) ∧ x.next (e.next st) = e.next (x.next st) := by
  obtain ⟨h1, h2, h3⟩ := hi
  obtain ⟨a1, a2, a3⟩ := Oper.apart_spec h1
  refine ⟨TOk_congr he (fun t ht => ?_) (fun id hid => ?_), TOk_congr hx (fun t ht => ?_) (fun id hid => ?_), ?_⟩
  · exact (putE_out (fun e1 => a1 t e1 ht)).symm
  · exact (app_out (fun e1 => (h2 id e1).1 hid)).symm
  · exact putE_out (fun e1 => a3 t e1 ht)
  · exact app_out (fun e1 => h3 id e1 hid)
  · unfold TE.next
    simp only
    rw [putE_comm (fun t ht => a2 t ht |> fun k => k), app_comm (W := x.W) (fun id hid => (h2 id hid).2)]

def Chain (P : Program) (ops : Array Oper) (N nx : Nat) : List TE → ASt → ASt → Prop
  | [], s, f => s = f
  | e :: r, s, f => TOk P ops N nx e s ∧ Chain P ops N nx r (e.next s) f
theorem Chain.front {e : TE} {f : ASt} : ∀ {xs ys : List TE} {s : ASt}, Chain P ops N nx (xs ++ e :: ys) s f → (∀ x ∈ xs, Indep ops x e) → TOk P ops N nx e s ∧ Chain P ops N nx (xs ++ ys) (e.next s) f
  | [], ys, s, h, _ => h
  | x :: xs, ys, s, h, hi => by
    obtain ⟨h1, h2⟩ := h
    obtain ⟨h3, h4⟩ := Chain.front h2 (fun y hy => hi y (by simp [hy]))
    obtain ⟨h5, h6, h7⟩ := swap h1 h3 (hi x (by simp))
    exact ⟨h5, h6, by rw [h7]; exact h4⟩

/-- j comes ahead of i by the edges -/
def isPre (ops : Array Oper) : Nat → Nat → Nat → Bool
  | 0, _, _ => false
  | f + 1, j, i => match ops[i]? with
    | some o => o.after.any fun e => Region.binds .any e && (e.on == j || isPre ops f j e.on)
    | none => false
/-- what is listed has all ahead of it listed -/
def Down (ops : Array Oper) (listed : Array Bool) : Prop := ∀ (j : Nat) o, ops[j]? = some o → listed.getD j true = true → ∀ ed ∈ o.after, Region.binds .any ed = true → listed.getD ed.on false = true
theorem isPre_listed {listed : Array Bool} (hd : Down ops listed) (hs : listed.size = ops.size) : ∀ {f j i : Nat} {o : Oper}, ops[i]? = some o → (∀ ed ∈ o.after, Region.binds .any ed = true → listed.getD ed.on false = true) → isPre ops f j i = true → listed.getD j false = true
  | 0, j, i, o, _, _, h => by simp [isPre] at h
  | f + 1, j, i, o, ho, hl, h => by
    rw [isPre, ho] at h
    simp only at h
    rw [← Array.any_toList, List.any_eq_true] at h
    obtain ⟨ed, hm, h⟩ := h
    have hm : ed ∈ o.after := by simpa using hm
    simp only [Bool.and_eq_true, Bool.or_eq_true, beq_iff_eq] at h
    obtain ⟨hb, h⟩ := h
    have hon := hl ed hm hb
    rcases h with rfl | h
    · exact hon
    · have hlt : ed.on < ops.size := by
        rw [← hs]
        rcases Nat.lt_or_ge ed.on listed.size with h' | h'
        · exact h'
        · simp [Array.getElem?_eq_none h'] at hon
      refine isPre_listed hd hs (Array.getElem?_eq_getElem hlt) (fun ed' hm' hb' => hd ed.on _ (Array.getElem?_eq_getElem hlt) ?_ ed' hm' hb') h
      have hl' : ed.on < listed.size := by omega
      simpa [hl'] using hon

theorem any_trace {ro : Option Nat} {rm : Nat} {f : ASt} {Q : Exit → Act → World → Prop} (hback : ∀ (i : Nat) o, ops[i]? = some o → ∀ ed ∈ o.after, Region.binds .any ed = true → ed.on < i) :
    ∀ (n : Nat) (tr : List TE) (fuel : Nat) (listed : Array Bool) (st : ASt) (c : Cx) (a : Act), tr.length = n → n ≤ fuel → listed.size = ops.size → Down ops listed →
    (∀ i, i < ops.size → (listed.getD i true = false ↔ ∃ e ∈ tr, e.i = i)) → (tr.map (·.i)).Pairwise (· < ·) → (∀ e ∈ tr, e.i < ops.size) →
    tr.Pairwise (fun x e => (∃ k, isPre ops k x.i e.i = true) ∨ Indep ops x e) → Chain P ops N nx tr st f →
    RelR N nx (fun j => listed.getD j false = true) c st a → (∀ c' a', Later nx c c' → a'.defers = a.defers → RelR N nx (fun j => j < ops.size) c' f a' → Q .normal a' c'.w) → wpAnyIn (FR ro) rm P .any ops Q fuel listed a c.w := by
  intro n
  induction n with
  | zero =>
    intro tr fuel listed st c a hn _ hsz hdn hidx _ _ _ hch hrel hQ
    have htr : tr = [] := List.eq_nil_of_length_eq_zero hn
    subst htr
    have hst : st = f := hch
    subst hst
    have hnor : Q .normal a c.w := hQ c a (Later.refl c) rfl ⟨hrel.size, hrel.env, hrel.hr, hrel.σ, fun id h1 h2 => by
      obtain ⟨j, h3, h4⟩ := hrel.fresh id h1 h2
      refine ⟨j, ?_, h4⟩
      rw [← hsz]
      rcases Nat.lt_or_ge j listed.size with h' | h'
      · exact h'
      · simp [Array.getElem?_eq_none h'] at h3⟩
    have hready : Region.ready .any ops listed = [] := by
      rw [List.eq_nil_iff_forall_not_mem]
      intro i hi
      rw [mem_ready] at hi
      obtain ⟨h1, o, h2, _⟩ := hi
      have hlt : i < ops.size := (Array.getElem?_eq_some_iff.1 h2).1
      obtain ⟨e, he, _⟩ := (hidx i hlt).1 h1
      cases he
    cases fuel with
    | zero => exact ⟨hready, hnor⟩
    | succ k => exact ⟨fun _ => hnor, fun i hi => by rw [hready] at hi; cases hi⟩
  | succ n ih =>
    intro tr fuel listed st c a hn hf hsz hdn hidx hsort hlt hind hch hrel hQ
    cases fuel with
    | zero => omega
    | succ k =>
      refine ⟨fun hnil => ?_, fun i hi => ?_⟩
      · exfalso
        cases tr with
        | nil => simp at hn
        | cons e tr =>
          have hei := hlt e (by simp)
          have hmem : e.i ∈ Region.ready .any ops listed := by
            rw [mem_ready]
            refine ⟨(hidx e.i hei).2 ⟨e, by simp, rfl⟩, _, Array.getElem?_eq_getElem hei, fun ed hm hb => ?_⟩
            have hlt' := hback e.i _ (Array.getElem?_eq_getElem hei) ed hm hb
            cases hl : listed.getD ed.on false with
            | true => rfl
            | false =>
              exfalso
              have hon : ed.on < ops.size := by omega
              have hl2 : listed.getD ed.on true = false := by
                have : ed.on < listed.size := by omega
                simp [this] at hl ⊢
                exact hl
              obtain ⟨e', he', h9⟩ := (hidx ed.on hon).1 hl2
              rcases List.mem_cons.1 he' with rfl | he'
              · omega
              · simp only [List.map_cons, List.pairwise_cons] at hsort
                have := hsort.1 e'.i (List.mem_map.2 ⟨e', he', rfl⟩)
                omega
          rw [hnil] at hmem
          cases hmem
      · rw [mem_ready] at hi
        obtain ⟨h1, o, ho, hrdy⟩ := hi
        have hil : i < ops.size := (Array.getElem?_eq_some_iff.1 ho).1
        obtain ⟨e, he, rfl⟩ := (hidx i hil).1 h1
        obtain ⟨xs, ys, rfl⟩ := List.append_of_mem he
        have hx : ∀ x ∈ xs, Indep ops x e := by
          intro x hxm
          rw [List.pairwise_append] at hind
          rcases hind.2.2 x hxm e (by simp) with ⟨q, h9⟩ | h9
          · exfalso
            have h8 := isPre_listed hdn hsz ho hrdy h9
            have h7 := (hidx x.i (hlt x (by simp [hxm]))).2 ⟨x, by simp [hxm], rfl⟩
            have : x.i < listed.size := by rw [hsz]; exact hlt x (by simp [hxm])
            simp [this] at h7 h8
            rw [h7] at h8; cases h8
          · exact h9
        obtain ⟨hok, hch'⟩ := hch.front hx
        have hlj : e.i < listed.size := by omega
        have hget : ∀ j, (listed.setIfInBounds e.i true).getD j false = true ↔ (listed.getD j false = true ∨ j = e.i) := by
          intro j
          by_cases hj : e.i = j
          · subst hj; simp [hlj]
          · rw [getD_set_ne false hj]
            constructor
            · exact .inl
            · rintro (h | h)
              · exact h
              · exact absurd h.symm hj
        refine entry_wp hrel hok (by
          intro h9
          simp [hlj] at h1 h9
          rw [h1] at h9; cases h9) (done' := fun j => (listed.setIfInBounds e.i true).getD j false = true) (fun j hj => (hget j).2 hj) ?_
        intro c' a' hl' hd' hrel'
        refine ih (xs ++ ys) k _ _ c' a' (by simp at hn ⊢; omega) (by omega) (by simpa using hsz) ?_ ?_ ?_ ?_ ?_ hch' hrel' (fun c2 a2 hl2 hd2 hr2 => hQ c2 a2 (hl'.trans hl2) (hd2.trans hd') hr2)
        · intro j oj hoj hlj' ed hm hb
          rw [hget]
          by_cases hj : e.i = j
          · subst hj
            rw [ho] at hoj
            cases hoj
            exact .inl (hrdy ed hm hb)
          · rw [getD_set_ne true hj] at hlj'
            exact .inl (hdn j oj hoj hlj' ed hm hb)
        · intro j hj
          have hsm : ∀ e' ∈ xs ++ ys, e'.i ≠ e.i := by
            intro e' he'
            simp only [List.map_append, List.map_cons, List.pairwise_append, List.pairwise_cons] at hsort
            rcases List.mem_append.1 he' with h | h
            · have := hsort.2.2 e'.i (List.mem_map.2 ⟨e', h, rfl⟩) e.i (by simp); omega
            · have := hsort.2.1.1 e'.i (List.mem_map.2 ⟨e', h, rfl⟩); omega
          by_cases hje : e.i = j
          · subst hje
            constructor
            · intro h9; simp [hlj] at h9
            · rintro ⟨e', he', h9⟩; exact absurd h9 (hsm e' he')
          · rw [getD_set_ne true hje, hidx j hj]
            constructor
            · rintro ⟨e', he', h9⟩
              refine ⟨e', ?_, h9⟩
              rcases List.mem_append.1 he' with h | h
              · simp [h]
              · rcases List.mem_cons.1 h with rfl | h
                · exact absurd h9 hje
                · simp [h]
            · rintro ⟨e', he', h9⟩
              refine ⟨e', ?_, h9⟩
              rcases List.mem_append.1 he' with h | h
              · simp [h]
              · simp [h]
        · have hsub : (xs ++ ys).Sublist (xs ++ e :: ys) := List.Sublist.append (List.Sublist.refl xs) (List.sublist_cons_self e ys)
          exact hsort.sublist (hsub.map _)
        · intro e' he'
          refine hlt e' ?_
          rcases List.mem_append.1 he' with h | h
          · simp [h]
          · simp [h]
        · have hsub : (xs ++ ys).Sublist (xs ++ e :: ys) := List.Sublist.append (List.Sublist.refl xs) (List.sublist_cons_self e ys)
          exact hind.sublist hsub

theorem text_trace {ro : Option Nat} {rm : Nat} {f : ASt} {Q : Exit → Act → World → Prop} : ∀ (tr : List TE) (k : Nat) (st : ASt) (c : Cx) (a : Act), k + tr.length = ops.size → (∀ (j : Nat) e, tr[j]? = some e → e.i = k + j) → Chain P ops N nx tr st f →
    RelR N nx (fun j => j < k) c st a → (∀ c' a', Later nx c c' → a'.defers = a.defers → RelR N nx (fun j => j < ops.size) c' f a' → Q .normal a' c'.w) → wpOpsIn (FR ro) rm P ops Q (List.range' k tr.length) a c.w
  | [], k, st, c, a, hk, _, hch, hrel, hQ => by
    have hst : st = f := hch
    subst hst
    simp at hk
    simp only [List.length_nil, List.range'_zero, wpOpsIn]
    exact hQ c a (Later.refl c) rfl (by rw [← hk]; exact hrel)
  | e :: tr, k, st, c, a, hk, hidx, hch, hrel, hQ => by
    obtain ⟨h1, h2⟩ := hch
    have he : e.i = k := by simpa using hidx 0 e rfl
    rw [List.length_cons, List.range'_succ, wpOpsIn_cons, ← he]
    refine entry_wp hrel h1 (by omega) (done' := fun j => j < k + 1) (fun j hj => by omega) (fun c' a' hl hd hr => ?_)
    rw [he]
    exact text_trace tr (k + 1) _ c' a' (by simp at hk; omega) (fun j e' hj => by have := hidx (j + 1) e' (by simpa using hj); omega) h2 hr (fun c2 a2 hl2 hd2 hr2 => hQ c2 a2 (hl.trans hl2) (hd2.trans hd) hr2)
end Go.Proofs.YtdenddhdeloceaaGreatDoor
