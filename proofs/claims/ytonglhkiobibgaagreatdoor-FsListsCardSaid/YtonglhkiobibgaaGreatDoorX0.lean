/- Merged texts: A0, GL, A1, A2, A3, A4, A5, A6, A7, AX, AY, AT, AV, A8, A9. -/
import Derived.WalkKit
import Derived.Below
import Derived.KernelRfl
import Derived.Deep.MidRow
import Derived.Deep.AppendSrc
import Derived.Laws.MakeOwn
import Derived.Laws.Cover3
import Derived.Laws.StructEq
import Derived.Laws.BytesString
import Derived.Laws.Cells
import Derived.Laws.IdiomCopy
import Derived.Laws.IdiomStrings
import Derived.Orders
set_option linter.unusedSimpArgs false
set_option linter.unusedVariables false
namespace Go.Proofs.YtonglhkiobibgaaGreatDoor

/-- What may become of another's block: nothing; octets, bools of whatever value; anything. -/
inductive WK where
  | no
  | u8
  | bl
  | free
instance : DecidableEq WK := fun a b => by cases a <;> cases b <;> first | exact .isTrue rfl | exact .isFalse (fun h => by cases h)
def kindIs : WK → Value → Prop
  | .u8, x => ∃ n, x = .int .u8 n
  | .bl, x => ∃ b, x = .bool b
  | _, _ => False
/-- What is known of a value: nothing; all; a slice (pointer) of memory that nobody writes any more, with its cells; a slice (pointer) of a row that the run holds, by its name; a struct; a tuple. -/
inductive AV where
  | any
  | v (x : Value)
  | fs (fr : Bool) (cs : List AV) (n : Nat)
  | fp (fr : Bool) (cs : List AV) (off : Nat)
  | os (id off n sz : Nat)
  | op (id off : Nat)
  | mp (id : Nat)
  | agg (l : List AV)
  | tup (l : List AV)
  | fn (f : Nat) (l : List AV)
  | ws (k : WK) (n : Nat)
  | wp (k : WK)
  | wv (k : WK)
  | us (fr : Bool) (e : Nat) (cs : List AV) (n : Nat)
  | ifc (t : Nat) (a : AV)

/-- What a name stands for: a row of cells. -/
inductive AObj where
  | row (young : Bool) (elem : Nat) (cells : List AV)

abbrev Heap := Nat → Option AObj

/-- A moment: the memory, the bound of what is young, where the names lie (none: nowhere; some none: an empty row without a block), what is held, and what is another's. -/
structure Cx where
  w : World
  B : Nat
  φ : Nat → Option (Option Nat)
  σ : Heap
  X : Nat → Prop
  Y : Nat → WK

/-- the type that stands for a map's row: its cells are a key, its value, the next key, .. -/
def MAPE : Nat := 1000000007
/-- the entries, one behind the other -/
def flatM (es : List MapEntry) : List Value := es.flatMap fun e => [e.key, e.val]
/-- a block's row: cells, or a map's entries (n words of them) -/
def Blk (w : World) (b : Nat) (e : Nat) (cs : Array Value) (n : Nat) : Prop :=
  (e ≠ MAPE ∧ w.heap[b]? = some (.cells cs e (0, 0))) ∨
  (e = MAPE ∧ ∃ es clock, w.heap[b]? = some (.map es clock) ∧ cs = (flatM es.toList).toArray ∧ (∀ x ∈ es.toList, x.born < clock) ∧ (es.toList.map (·.born)).Nodup ∧ n = cs.size)
theorem Blk.lt {w : World} {b e n : Nat} {cs : Array Value} (h : Blk w b e cs n) : b < w.heap.size := by
  rcases h with ⟨_, h⟩ | ⟨_, es, clock, h, _⟩ <;> exact (Array.getElem?_eq_some_iff.1 h).1
theorem Blk.of {w w' : World} {b e n : Nat} {cs : Array Value} (h : Blk w b e cs n) (k : w'.heap[b]? = w.heap[b]?) : Blk w' b e cs n := by
  unfold Blk at *; rw [k]; exact h
theorem Blk.cells {w : World} {b e n : Nat} {cs : Array Value} (h : Blk w b e cs n) (k : ∃ vs e' f, w.heap[b]? = some (Obj.cells vs e' f)) : w.heap[b]? = some (.cells cs e (0, 0)) := by
  obtain ⟨vs, e', f, k⟩ := k
  rcases h with ⟨_, h⟩ | ⟨_, es, clock, h, _⟩
  · exact h
  · rw [h] at k; cases k
theorem Blk.ne {w : World} {b e n : Nat} {cs : Array Value} (h : Blk w b e cs n) (k : ∃ vs e' f, w.heap[b]? = some (Obj.cells vs e' f)) : e ≠ MAPE := by
  obtain ⟨vs, e', f, k⟩ := k
  rcases h with ⟨h, _⟩ | ⟨_, es, clock, h, _⟩
  · exact h
  · rw [h] at k; cases k
theorem Blk.cells2 {w : World} {b e n : Nat} {cs : Array Value} (h : Blk w b e cs n) (k : e ≠ MAPE) : w.heap[b]? = some (.cells cs e (0, 0)) := by
  rcases h with ⟨_, h⟩ | ⟨h, _⟩
  · exact h
  · exact absurd h k
theorem Blk.mk {w : World} {b e n : Nat} {cs : Array Value} (k : e ≠ MAPE) (h : w.heap[b]? = some (.cells cs e (0, 0))) : Blk w b e cs n := .inl ⟨k, h⟩
theorem Blk.to {w : World} {b e n m : Nat} {cs : Array Value} (h : Blk w b e cs n) (k : m = n) : Blk w b e cs m := k ▸ h
/-- the blocks of what is held -/
def Cx.T (c : Cx) (b : Nat) : Prop := ∃ id o, c.σ id = some o ∧ c.φ id = some (some b)
def Cx.ok (c : Cx) (fr : Bool) (b : Nat) : Prop := (fr = true → c.B ≤ b) ∧ ¬ c.T b ∧ ¬ c.X b
def Typed (w : World) (k : WK) (b sz : Nat) : Prop := ∃ (cs : Array Value) (e : TypeId), w.heap[b]? = some (.cells cs e (0, 0)) ∧ sz ≤ cs.size ∧ ∀ (j : Nat) x, j < sz → cs[j]? = some x → kindIs k x
/-- a block of another's that may be written: off + n of its cells are there -/
def Cx.wok (c : Cx) (k : WK) (b n : Nat) : Prop := c.X b ∧ ¬ c.T b ∧ c.Y b = k ∧ (k = .u8 ∨ k = .bl) ∧ ∃ sz, Typed c.w k b sz ∧ n ≤ sz

mutual
def VR (c : Cx) : AV → Value → Prop
  | .any, _ => True
  | .v x, u => u = x
  | .fs fr cs n, u => ∃ A k, u = .slice A n k ∧ n ≤ k ∧ (n ≠ 0 → ∃ b off, A = some ⟨b, off, none⟩ ∧ b < c.w.heap.size ∧ c.ok fr b ∧ VRm c b off cs)
  | .fp fr cs d, u => ∃ b off, u = .pointer (some ⟨b, off + d, none⟩) ∧ b < c.w.heap.size ∧ c.ok fr b ∧ VRm c b off cs
  | .os id off n sz, u => ∃ A k, u = .slice A n k ∧ n ≤ k ∧
      ((c.φ id ≠ none ∧ k = 0) ∨ ∃ b, c.φ id = some (some b) ∧ A = some ⟨b, off, none⟩ ∧ ∃ cs e f, c.w.heap[b]? = some (.cells cs e f) ∧ off + k * sz ≤ cs.size)
  | .op id off, u => ∃ b, c.φ id = some (some b) ∧ u = .pointer (some ⟨b, off, none⟩) ∧ ∃ cs e f, c.w.heap[b]? = some (.cells cs e f)
  | .mp id, u => ∃ b, c.φ id = some (some b) ∧ u = .map (some b)
  | .agg l, u => ∃ us, u = .agg (List.toArray us) ∧ VRl c l us
  | .tup l, u => ∃ us, u = .tuple (List.toArray us) ∧ VRt c l us
  | .fn f l, u => ∃ us, u = .func (.func f) #[] (List.toArray us) ∧ VRt c l us
  | .ws k n, u => ∃ A q, u = .slice A n q ∧ n ≤ q ∧ (n ≠ 0 → ∃ b off, A = some ⟨b, off, none⟩ ∧ c.wok k b (off + n))
  | .wp k, u => ∃ b off, u = .pointer (some ⟨b, off, none⟩) ∧ c.wok k b (off + 1)
  | .wv k, u => kindIs k u
  | .us fr e cs n, u => ∃ A k, u = .slice A n k ∧ n ≤ k ∧ (n ≠ 0 → ∃ b, A = some ⟨b, 0, none⟩ ∧ c.ok fr b ∧ (∃ vs, c.w.heap[b]? = some (.cells vs e (0, 0))) ∧ VRm c b 0 cs)
  | .ifc t a, u => ∃ v, u = .iface t v ∧ VR c a v
def VRm (c : Cx) (b off : Nat) : List AV → Prop
  | [] => True
  | a :: r => (∃ u, c.w.cell? ⟨b, off, none⟩ = some u ∧ u.oneCell' = true ∧ VR c a u) ∧ VRm c b (off + 1) r
def VRl (c : Cx) : List AV → List Value → Prop
  | [], us => us = []
  | a :: r, us => ∃ u us', us = u :: us' ∧ u.oneCell' = true ∧ VR c a u ∧ VRl c r us'
def VRt (c : Cx) : List AV → List Value → Prop
  | [], us => us = []
  | a :: r, us => ∃ u us', us = u :: us' ∧ VR c a u ∧ VRt c r us'
end

theorem VRm_iff {c : Cx} {b : Nat} : ∀ {cs : List AV} {off : Nat}, VRm c b off cs ↔ ∀ (j : Nat) a, cs[j]? = some a → ∃ u, c.w.cell? ⟨b, off + j, none⟩ = some u ∧ u.oneCell' = true ∧ VR c a u
  | [], off => by simp [VRm]
  | a :: r, off => by
    rw [VRm, VRm_iff (cs := r)]
    constructor
    · rintro ⟨h0, h⟩ j a' hj
      cases j with
      | zero => simp at hj; subst hj; exact h0
      | succ j => simp at hj; have := h j a' hj; rwa [Nat.add_assoc, Nat.add_comm 1 j] at this
    · intro h
      refine ⟨h 0 a rfl, fun j a' hj => ?_⟩
      have := h (j + 1) a' (by simpa using hj)
      rwa [Nat.add_assoc, Nat.add_comm 1 j]
theorem VRl_iff {c : Cx} : ∀ {cs : List AV} {us : List Value}, VRl c cs us ↔ us.length = cs.length ∧ ∀ (j : Nat) a, cs[j]? = some a → ∃ u, us[j]? = some u ∧ u.oneCell' = true ∧ VR c a u
  | [], us => by simp [VRl]
  | a :: r, us => by
    rw [VRl]
    constructor
    · rintro ⟨u, us', rfl, h1, h2, h3⟩
      rw [VRl_iff (cs := r)] at h3
      refine ⟨by simp [h3.1], fun j a' hj => ?_⟩
      cases j with
      | zero => simp at hj; subst hj; exact ⟨u, rfl, h1, h2⟩
      | succ j => simp at hj; simpa using h3.2 j a' hj
    · rintro ⟨hl, h⟩
      cases us with
      | nil => simp at hl
      | cons u us' =>
        obtain ⟨u', e, h1, h2⟩ := h 0 a rfl
        simp at e
        subst e
        refine ⟨u, us', rfl, h1, h2, VRl_iff.2 ⟨by simpa using hl, fun j a' hj => ?_⟩⟩
        simpa using h (j + 1) a' (by simpa using hj)
theorem VRt_iff {c : Cx} : ∀ {cs : List AV} {us : List Value}, VRt c cs us ↔ us.length = cs.length ∧ ∀ (j : Nat) a, cs[j]? = some a → ∃ u, us[j]? = some u ∧ VR c a u
  | [], us => by simp [VRt]
  | a :: r, us => by
    rw [VRt]
    constructor
    · rintro ⟨u, us', rfl, h2, h3⟩
      rw [VRt_iff (cs := r)] at h3
      refine ⟨by simp [h3.1], fun j a' hj => ?_⟩
      cases j with
      | zero => simp at hj; subst hj; exact ⟨u, rfl, h2⟩
      | succ j => simp at hj; simpa using h3.2 j a' hj
    · rintro ⟨hl, h⟩
      cases us with
      | nil => simp at hl
      | cons u us' =>
        obtain ⟨u', e, h2⟩ := h 0 a rfl
        simp at e
        subst e
        refine ⟨u, us', rfl, h2, VRt_iff.2 ⟨by simpa using hl, fun j a' hj => ?_⟩⟩
        simpa using h (j + 1) a' (by simpa using hj)

/-- From one moment to a later one: what is not held stays. -/
structure Grow (c d : Cx) : Prop where
  X : d.X = c.X
  B : d.B = c.B
  out : d.w.output = c.w.output
  osE : d.w.os = c.w.os
  tape : d.w.tape = c.w.tape
  size : c.w.heap.size ≤ d.w.heap.size
  stay : ∀ b, b < c.w.heap.size → ¬ c.T b → (c.X b → c.Y b = .no) → d.w.heap[b]? = c.w.heap[b]?
  held : ∀ b, d.T b → c.T b ∨ c.w.heap.size ≤ b
  shape : ∀ (b : Nat) (cs : Array Value) (e : TypeId) (f : Nat × Nat), c.w.heap[b]? = some (Obj.cells cs e f) → ∃ (cs' : Array Value) (f' : Nat × Nat), d.w.heap[b]? = some (Obj.cells cs' e f') ∧ cs'.size = cs.size
  Y : d.Y = c.Y
  wild : ∀ b k sz, ¬ c.T b → c.X b → c.Y b = k → (k = .u8 ∨ k = .bl) → Typed c.w k b sz → Typed d.w k b sz
theorem Typed.lt {w : World} {k : WK} {b sz : Nat} (h : Typed w k b sz) : b < w.heap.size := by
  obtain ⟨cs, e, h, _⟩ := h
  exact (Array.getElem?_eq_some_iff.1 h).1
/-- a step that writes nothing of another's -/
structure Still (c d : Cx) : Prop where
  Y : d.Y = c.Y
  X : d.X = c.X
  B : d.B = c.B
  out : d.w.output = c.w.output
  osE : d.w.os = c.w.os
  tape : d.w.tape = c.w.tape
  size : c.w.heap.size ≤ d.w.heap.size
  stay : ∀ b, b < c.w.heap.size → ¬ c.T b → d.w.heap[b]? = c.w.heap[b]?
  held : ∀ b, d.T b → c.T b ∨ c.w.heap.size ≤ b
  shape : ∀ (b : Nat) (cs : Array Value) (e : TypeId) (f : Nat × Nat), c.w.heap[b]? = some (Obj.cells cs e f) → ∃ (cs' : Array Value) (f' : Nat × Nat), d.w.heap[b]? = some (Obj.cells cs' e f') ∧ cs'.size = cs.size
theorem Still.grow {c d : Cx} (h : Still c d) : Grow c d :=
  ⟨h.X, h.B, h.out, h.osE, h.tape, h.size, fun b h1 h2 _ => h.stay b h1 h2, h.held, h.shape, h.Y, fun b k sz h1 _ _ _ h5 => by
    obtain ⟨cs, e, h6, h7⟩ := h5
    exact ⟨cs, e, (h.stay b (Array.getElem?_eq_some_iff.1 h6).1 h1).trans h6, h7⟩⟩
theorem Grow.refl (c : Cx) : Grow c c := Still.grow ⟨rfl, rfl, rfl, rfl, rfl, rfl, Nat.le_refl _, fun _ _ _ => rfl, fun _ h => .inl h, fun _ cs _ f h => ⟨cs, f, h, rfl⟩⟩
theorem Grow.trans {a b c : Cx} (h : Grow a b) (k : Grow b c) : Grow a c := by
  have nt : ∀ x, x < a.w.heap.size → ¬ a.T x → ¬ b.T x := fun x hx ht hb => by
    rcases h.held x hb with h' | h'
    · exact ht h'
    · omega
  refine ⟨k.X.trans h.X, k.B.trans h.B, k.out.trans h.out, k.osE.trans h.osE, k.tape.trans h.tape, Nat.le_trans h.size k.size, fun x hx ht hy => ?_, fun x hx => ?_, fun x cs e f hc => ?_, k.Y.trans h.Y, fun x q sz h1 h2 h3 h4 h5 => ?_⟩
  · exact (k.stay x (Nat.lt_of_lt_of_le hx h.size) (nt x hx ht) (by rw [h.X, h.Y]; exact hy)).trans (h.stay x hx ht hy)
  · rcases k.held x hx with h' | h'
    · exact h.held x h'
    · exact .inr (Nat.le_trans h.size h')
  · obtain ⟨cs1, f1, h1, e1⟩ := h.shape x cs e f hc
    obtain ⟨cs2, f2, h2, e2⟩ := k.shape x cs1 e f1 h1
    exact ⟨cs2, f2, h2, e2.trans e1⟩
  · exact k.wild x q sz (nt x h5.lt h1) (by rw [h.X]; exact h2) (by rw [h.Y]; exact h3) h4 (h.wild x q sz h1 h2 h3 h4 h5)
/-- the names stay where they are -/
def Names (c d : Cx) : Prop := ∀ id x, c.φ id = some x → d.φ id = some x
theorem Names.refl (c : Cx) : Names c c := fun _ _ h => h
theorem Names.trans {a b c : Cx} (h : Names a b) (k : Names b c) : Names a c := fun id x hx => k id x (h id x hx)

theorem cell_lt {w : World} {b o : Nat} {u : Value} (h : w.cell? ⟨b, o, none⟩ = some u) : b < w.heap.size := World.block_lt_of_cell? w _ h
theorem Grow.okk {c d : Cx} (g : Grow c d) {fr : Bool} {b : Nat} (h : c.ok fr b) (hb : b < c.w.heap.size) : d.ok fr b := by
  refine ⟨fun e => by rw [g.B]; exact h.1 e, fun ht => ?_, by rw [g.X]; exact h.2.2⟩
  rcases g.held b ht with h' | h'
  · exact h.2.1 h'
  · omega
theorem Grow.wokk {c d : Cx} (g : Grow c d) {k : WK} {b n : Nat} (h : c.wok k b n) : d.wok k b n := by
  obtain ⟨h1, h2, h3, h4, sz, h5, h6⟩ := h
  refine ⟨by rw [g.X]; exact h1, fun ht => ?_, by rw [g.Y]; exact h3, h4, sz, g.wild b k sz h2 h1 h3 h4 h5, h6⟩
  rcases g.held b ht with h' | h'
  · exact h2 h'
  · have := h5.lt; omega
mutual
theorem VR.mono {c d : Cx} (g : Grow c d) (n : Names c d) : ∀ {a : AV} {u : Value}, VR c a u → VR d a u
  | .any, u, _ => trivial
  | .v x, u, h => h
  | .fs fr cs m, u, h => by
    obtain ⟨A, k, rfl, hk, hc⟩ := h
    refine ⟨A, k, rfl, hk, fun hne => ?_⟩
    obtain ⟨b, off, rfl, hlt, ho, hm⟩ := hc hne
    exact ⟨b, off, rfl, Nat.lt_of_lt_of_le hlt g.size, g.okk ho hlt, VRm.mono g n ho.2.1 ho.2.2 hm⟩
  | .fp fr cs m, u, h => by
    obtain ⟨b, off, rfl, hlt, ho, hm⟩ := h
    exact ⟨b, off, rfl, Nat.lt_of_lt_of_le hlt g.size, g.okk ho hlt, VRm.mono g n ho.2.1 ho.2.2 hm⟩
  | .os id off m sz, u, h => by
    obtain ⟨A, k, rfl, hk, hc⟩ := h
    refine ⟨A, k, rfl, hk, ?_⟩
    rcases hc with ⟨h1, h2⟩ | ⟨b, h1, rfl, cs, e, f, h2, h3⟩
    · obtain ⟨x, hx⟩ := Option.ne_none_iff_exists'.1 h1
      exact .inl ⟨by rw [n _ _ hx]; simp, h2⟩
    · obtain ⟨cs', f', h4, h5⟩ := g.shape b cs e f h2
      exact .inr ⟨b, n _ _ h1, rfl, cs', e, f', h4, by omega⟩
  | .op id off, u, h => by
    obtain ⟨b, h1, rfl, cs, e, f, h2⟩ := h
    obtain ⟨cs', f', h4, _⟩ := g.shape b cs e f h2
    exact ⟨b, n _ _ h1, rfl, cs', e, f', h4⟩
  | .mp id, u, h => by
    obtain ⟨b, h1, rfl⟩ := h
    exact ⟨b, n _ _ h1, rfl⟩
  | .agg l, u, h => by
    obtain ⟨us, rfl, h⟩ := h
    exact ⟨us, rfl, VRl.mono g n h⟩
  | .tup l, u, h => by
    obtain ⟨us, rfl, h⟩ := h
    exact ⟨us, rfl, VRt.mono g n h⟩
  | .fn f l, u, h => by
    obtain ⟨us, rfl, h⟩ := h
    exact ⟨us, rfl, VRt.mono g n h⟩
  | .ws k m, u, h => by
    obtain ⟨A, q, rfl, hk, hc⟩ := h
    refine ⟨A, q, rfl, hk, fun hne => ?_⟩
    obtain ⟨b, off, rfl, hw⟩ := hc hne
    exact ⟨b, off, rfl, g.wokk hw⟩
  | .wp k, u, h => by
    obtain ⟨b, off, rfl, hw⟩ := h
    exact ⟨b, off, rfl, g.wokk hw⟩
  | .wv k, u, h => h
  | .us fr e cs m, u, h => by
    obtain ⟨A, k, rfl, hk, hc⟩ := h
    refine ⟨A, k, rfl, hk, fun hne => ?_⟩
    obtain ⟨b, rfl, ho, ⟨vs, hv⟩, hm⟩ := hc hne
    have hlt := (Array.getElem?_eq_some_iff.1 hv).1
    exact ⟨b, rfl, g.okk ho hlt, ⟨vs, (g.stay b hlt ho.2.1 (fun h => absurd h ho.2.2)).trans hv⟩, VRm.mono g n ho.2.1 ho.2.2 hm⟩
  | .ifc t a, u, h => by
    obtain ⟨v, rfl, h⟩ := h
    exact ⟨v, rfl, VR.mono g n h⟩
theorem VRm.mono {c d : Cx} (g : Grow c d) (n : Names c d) {b : Nat} (hb : ¬ c.T b) (hx : ¬ c.X b) : ∀ {cs : List AV} {off : Nat}, VRm c b off cs → VRm d b off cs
  | [], _, _ => trivial
  | a :: r, off, h => by
    rw [VRm] at h ⊢
    obtain ⟨⟨u, h1, h2, h3⟩, h4⟩ := h
    exact ⟨⟨u, (World.cell?_of_block (w := c.w) (g.stay b (cell_lt h1) hb (fun h => absurd h hx))).trans h1, h2, VR.mono g n h3⟩, VRm.mono g n hb hx h4⟩
theorem VRl.mono {c d : Cx} (g : Grow c d) (n : Names c d) : ∀ {cs : List AV} {us : List Value}, VRl c cs us → VRl d cs us
  | [], _, h => h
  | a :: r, us, h => by
    rw [VRl] at h ⊢
    obtain ⟨u, us', rfl, h1, h2, h3⟩ := h
    exact ⟨u, us', rfl, h1, VR.mono g n h2, VRl.mono g n h3⟩
theorem VRt.mono {c d : Cx} (g : Grow c d) (n : Names c d) : ∀ {cs : List AV} {us : List Value}, VRt c cs us → VRt d cs us
  | [], _, h => h
  | a :: r, us, h => by
    rw [VRt] at h ⊢
    obtain ⟨u, us', rfl, h2, h3⟩ := h
    exact ⟨u, us', rfl, VR.mono g n h2, VRt.mono g n h3⟩
end
end Go.Proofs.YtonglhkiobibgaaGreatDoor
namespace Go.Proofs.YtonglhkiobibgaaGreatDoor
/-- by its block: what the variable's one cell holds -/
def GLOB : Nat → Option Value := fun b => if b = 0 then some (.iface 342 (.agg #[.pointer (some ⟨4, 102, none⟩)])) else none
end Go.Proofs.YtonglhkiobibgaaGreatDoor
namespace Go.Proofs.YtonglhkiobibgaaGreatDoor

/-- package-level variables that are never written hold what they held -/
def Gl (c : Cx) : Prop := ∀ b v, GLOB b = some v → c.w.cell? ⟨b, 0, none⟩ = some v ∧ ¬ c.T b ∧ (c.X b → c.Y b = .no)
theorem Gl.to {c d : Cx} (h : Gl c) (hs : ∀ b, b < c.w.heap.size → ¬ c.T b → (c.X b → c.Y b = .no) → d.w.heap[b]? = c.w.heap[b]? ∧ ¬ d.T b ∧ (d.X b → d.Y b = .no)) : Gl d := by
  intro b v hb
  obtain ⟨h1, h2, h3⟩ := h b v hb
  obtain ⟨k1, k2, k3⟩ := hs b (cell_lt h1) h2 h3
  exact ⟨(World.cell?_of_block (w := c.w) k1).trans h1, k2, k3⟩
theorem Gl.grow {c d : Cx} (h : Gl c) (g : Grow c d) : Gl d := h.to fun b hb h2 h3 => by
  refine ⟨g.stay b hb h2 h3, fun ht => ?_, by rw [g.X, g.Y]; exact h3⟩
  rcases g.held b ht with h' | h'
  · exact h2 h'
  · omega
/-- the rows that are held lie where their names say, each in a block of its own -/
structure HR (c : Cx) : Prop where
  row : ∀ id y e cells, c.σ id = some (.row y e cells) → (c.φ id = some none ∧ cells = [] ∧ e ≠ MAPE) ∨ ∃ b cs, c.φ id = some (some b) ∧ Blk c.w b e cs cells.length ∧
    ((y = true → c.B ≤ b) ∧ ¬ c.X b) ∧ cells.length ≤ cs.size ∧ ∀ (j : Nat) a, cells[j]? = some a → ∃ u, cs[j]? = some u ∧ u.oneCell' = true ∧ VR c a u
  inj : ∀ id id' b, c.σ id ≠ none → c.σ id' ≠ none → c.φ id = some (some b) → c.φ id' = some (some b) → id = id'
  base : c.B ≤ c.w.heap.size
  xlt : ∀ b, c.X b → b < c.w.heap.size
  gl : Gl c

/-- What an operation does: it yields a value and leaves rows; it may look at rows. -/
inductive AM where
  | fail
  | ret (r : AV) (W : List (Nat × Option AObj))
  | rd (id : Nat) (k : AObj → AM)
def AM.run (σ : Heap) : AM → Option (AV × List Nat × List (Nat × Option AObj))
  | .fail => none
  | .ret r W => some (r, [], W)
  | .rd id k => match σ id with
    | some o => match (k o).run σ with
      | some (r, R, W) => some (r, id :: R, W)
      | none => none
    | none => none
def app (σ : Heap) : List (Nat × Option AObj) → Heap
  | [] => σ
  | (id, o) :: W => app (fun k => if k = id then o else σ k) W

/-- cells, and cells of a list -/
def cellsOf : AV → Option (List AV)
  | .agg l => some l
  | .v (.agg cs) => if cs.toList.all (·.oneCell') then some (cs.toList.map .v) else none
  | .v (.tuple _) | .any | .tup _ => none
  | a => some [a]
def getN (l : List AV) (off : Nat) : Nat → Option (List AV)
  | 0 => some []
  | n + 1 => match l[off]? with
    | some a => match getN l (off + 1) n with
      | some r => some (a :: r)
      | none => none
    | none => none
def setN (l : List AV) (off : Nat) : List AV → List AV
  | [] => l
  | a :: r => setN (l.set off a) (off + 1) r
/-- parts at their places, each of its size -/
def fillA (ρ : Operand → AV) (l : List AV) : List (Nat × Nat × Operand) → Option (List AV)
  | [] => some l
  | (off, sz, x) :: r => match cellsOf (ρ x) with
    | some cs => if cs.length = sz ∧ off + sz ≤ l.length then fillA ρ (setN l off cs) r else none
    | none => none

theorem getN_spec : ∀ {n : Nat} {l : List AV} {off : Nat} {r : List AV}, getN l off n = some r → r.length = n ∧ ∀ (j : Nat) a, r[j]? = some a → l[off + j]? = some a
  | 0, l, off, r, h => by simp [getN] at h; subst h; simp
  | n + 1, l, off, r, h => by
    rw [getN] at h
    split at h
    · rename_i a ha
      split at h
      · rename_i r' hr
        simp at h
        subst h
        obtain ⟨h1, h2⟩ := getN_spec hr
        refine ⟨by simp [h1], fun j b hb => ?_⟩
        cases j with
        | zero => simp at hb; subst hb; exact ha
        | succ j => simp at hb; have := h2 j b hb; rwa [Nat.add_assoc, Nat.add_comm 1 j] at this
      · cases h
    · cases h
theorem setN_length : ∀ {vs : List AV} {l : List AV} {off : Nat}, (setN l off vs).length = l.length
  | [], _, _ => rfl
  | a :: r, l, off => by rw [setN, setN_length]; simp
theorem setN_get : ∀ {vs : List AV} {l : List AV} {off : Nat} (j : Nat), off + vs.length ≤ l.length → (setN l off vs)[j]? = if off ≤ j ∧ j < off + vs.length then vs[j - off]? else l[j]?
  | [], l, off, j, _ => by simp [setN]; intro h1 h2; omega
  | a :: r, l, off, j, h => by
    rw [setN, setN_get j (by simp at h ⊢; omega)]
    simp only [List.length_cons] at h ⊢
    by_cases h1 : off + 1 ≤ j ∧ j < off + 1 + r.length
    · rw [if_pos h1, if_pos (by omega), show j - off = j - (off + 1) + 1 from by omega]; simp
    · rw [if_neg h1]
      by_cases h2 : j = off
      · subst h2; rw [if_pos (by omega), List.getElem?_set_self (by omega)]; simp
      · rw [if_neg (by omega), List.getElem?_set_ne (Ne.symm h2)]

theorem VR_cellsOf {c : Cx} {a : AV} {u : Value} {l : List AV} (h : VR c a u) (hl : cellsOf a = some l) : VRl c l u.cells.toList := by
  have one : ∀ u : Value, u.oneCell' = true → u.cells.toList = [u] := fun u hu => by cases u <;> simp_all [Value.cells, Value.oneCell']
  have put : ∀ {a : AV} {u : Value}, VR c a u → u.oneCell' = true → VRl c [a] u.cells.toList := fun h hu => by rw [one _ hu]; exact ⟨_, _, rfl, hu, h, rfl⟩
  cases a with
  | any => simp [cellsOf] at hl
  | v x =>
    cases x with
    | agg cs =>
      simp only [cellsOf] at hl
      split at hl
      · rename_i hall
        simp at hl
        subst hl
        have e : u = .agg cs := h
        subst e
        rw [VRl_iff]
        refine ⟨by simp [Value.cells], fun j a hj => ?_⟩
        rw [List.getElem?_map, Option.map_eq_some_iff] at hj
        obtain ⟨x, hx, rfl⟩ := hj
        exact ⟨x, hx, List.all_eq_true.1 hall x (List.mem_of_getElem? hx), rfl⟩
      · cases hl
    | tuple _ => simp [cellsOf] at hl
    | _ => (have e := h; simp only [VR] at e; subst e; simp only [cellsOf, Option.some.injEq] at hl; subst hl; exact put h rfl)
  | agg l' =>
    simp only [cellsOf, Option.some.injEq] at hl
    subst hl
    obtain ⟨us, rfl, h⟩ := h
    simpa [Value.cells] using h
  | tup _ => simp [cellsOf] at hl
  | fs fr cs n => (simp only [cellsOf, Option.some.injEq] at hl; subst hl; refine put h ?_; obtain ⟨A, k, rfl, _⟩ := h; rfl)
  | fp fr cs n => (simp only [cellsOf, Option.some.injEq] at hl; subst hl; refine put h ?_; obtain ⟨A, k, rfl, _⟩ := h; rfl)
  | os id off n sz => (simp only [cellsOf, Option.some.injEq] at hl; subst hl; refine put h ?_; obtain ⟨A, k, rfl, _⟩ := h; rfl)
  | fn f l => (simp only [cellsOf, Option.some.injEq] at hl; subst hl; refine put h ?_; obtain ⟨us, rfl, _⟩ := h; rfl)
  | ws k n => (simp only [cellsOf, Option.some.injEq] at hl; subst hl; refine put h ?_; obtain ⟨A, q, rfl, _⟩ := h; rfl)
  | wp k => (simp only [cellsOf, Option.some.injEq] at hl; subst hl; refine put h ?_; obtain ⟨b, off, rfl, _⟩ := h; rfl)
  | ifc t x => (simp only [cellsOf, Option.some.injEq] at hl; subst hl; refine put h ?_; obtain ⟨x, rfl, _⟩ := h; rfl)
  | us fr e cs n => (simp only [cellsOf, Option.some.injEq] at hl; subst hl; refine put h ?_; obtain ⟨A, k, rfl, _⟩ := h; rfl)
  | wv k => (simp only [cellsOf, Option.some.injEq] at hl; subst hl; refine put h ?_; cases k <;> first | (obtain ⟨n, rfl⟩ := h; rfl) | exact h.elim)
  | op id off => (simp only [cellsOf, Option.some.injEq] at hl; subst hl; refine put h ?_; obtain ⟨A, _, rfl, _⟩ := h; rfl)
  | mp id => (simp only [cellsOf, Option.some.injEq] at hl; subst hl; refine put h ?_; obtain ⟨A, _, rfl⟩ := h; rfl)

/-- A new moment behind an operation. -/
structure Then (c : Cx) (nb : Nat) (W : List (Nat × Option AObj)) (d : Cx) : Prop where
  grow : Grow c d
  names : Names c d
  hr : HR d
  σ : d.σ = app c.σ W
  fresh : ∀ id, d.φ id ≠ none → c.φ id ≠ none ∨ (nb ≤ id ∧ id < nb + 100000)

/-- the same moment, another tape place -/
def Cx.at (c : Cx) (w : World) : Cx := { c with w := w }
theorem VR.same {c : Cx} {a : AV} {u : Value} (h : VR c a u) : VR c a u := h
theorem Then.refl {c : Cx} (h : HR c) (nb : Nat) : Then c nb [] c := ⟨Grow.refl c, Names.refl c, h, rfl, fun _ h => .inl h⟩

/-- What a run of an operation leaves: a value, and a moment. -/
def Gives (P : Program) (s : Sem Value) (c : Cx) (am : AM) (nb : Nat) : Prop :=
  ∀ r R W, am.run c.σ = some (r, R, W) → HR c → (∀ id, nb ≤ id → c.φ id = none ∨ nb + 100000 ≤ id) → ∃ v d, s.run P c.w = .ok v d.w ∧ VR d r v ∧ Then c nb W d
theorem Gives.pure {P : Program} {c : Cx} {nb : Nat} {s : Sem Value} {r : AV} {v : Value} (hs : s.run P c.w = .ok v c.w) (hv : VR c r v) : Gives P s c (.ret r []) nb := by
  intro r' R W h hr _
  simp [AM.run] at h
  obtain ⟨rfl, rfl, rfl⟩ := h
  exact ⟨v, c, hs, hv, Then.refl hr nb⟩
end Go.Proofs.YtonglhkiobibgaaGreatDoor
namespace Go.Proofs.YtonglhkiobibgaaGreatDoor
open Go.RowKit

/-- cells of a block, written from an offset on -/
def setA (cs : Array Value) (o : Nat) : List Value → Array Value
  | [] => cs
  | v :: r => setA (cs.setIfInBounds o v) (o + 1) r
theorem setA_size : ∀ (vs : List Value) (cs : Array Value) (o : Nat), (setA cs o vs).size = cs.size
  | [], _, _ => rfl
  | v :: r, cs, o => by rw [setA, setA_size]; simp
theorem setA_get : ∀ (vs : List Value) (cs : Array Value) (o j : Nat), o + vs.length ≤ cs.size → (setA cs o vs)[j]? = if o ≤ j ∧ j < o + vs.length then vs[j - o]? else cs[j]?
  | [], cs, o, j, _ => by simp [setA]; intro h1 h2; omega
  | v :: r, cs, o, j, h => by
    rw [setA, setA_get r _ _ _ (by simp at h ⊢; omega)]
    simp only [List.length_cons] at h ⊢
    by_cases h1 : o + 1 ≤ j ∧ j < o + 1 + r.length
    · rw [if_pos h1, if_pos (by omega), show j - o = j - (o + 1) + 1 from by omega]; simp
    · rw [if_neg h1]
      by_cases h2 : j = o
      · subst h2; rw [if_pos (by omega)]; simp [show j < cs.size from by omega]
      · rw [if_neg (by omega), Array.getElem?_setIfInBounds_ne (Ne.symm h2)]
theorem setCells_heap {b : Nat} {e : TypeId} {f : Nat × Nat} : ∀ (vs : List Value) (w : World) (cs : Array Value) (o : Nat), w.heap[b]? = some (.cells cs e f) → (w.setCells b o vs).heap[b]? = some (.cells (setA cs o vs) e f)
  | [], _, _, _, h => h
  | v :: r, w, cs, o, h => by
    rw [World.setCells, setA]
    refine setCells_heap r _ _ _ ?_
    simp only [World.setCell]
    rw [Array.getElem?_modify]
    simp [h]
theorem setCells_other {b k : Nat} (hk : k ≠ b) : ∀ (vs : List Value) (w : World) (o : Nat), (w.setCells b o vs).heap[k]? = w.heap[k]?
  | [], _, _ => rfl
  | v :: r, w, o => by rw [World.setCells, setCells_other hk r]; exact Below.heap_setCell w _ v k hk
theorem setCells_out (b : Nat) : ∀ (vs : List Value) (w : World) (o : Nat), (w.setCells b o vs).heap.size = w.heap.size ∧ (w.setCells b o vs).output = w.output ∧ (w.setCells b o vs).os = w.os ∧ (w.setCells b o vs).tape = w.tape
  | [], _, _ => ⟨rfl, rfl, rfl, rfl⟩
  | v :: r, w, o => by
    rw [World.setCells]
    obtain ⟨h1, h2, h3, h4⟩ := setCells_out b r (w.setCell ⟨b, o, none⟩ v) (o + 1)
    exact ⟨by rw [h1]; simp [World.setCell], by rw [h2]; rfl, by rw [h3]; rfl, by rw [h4]; rfl⟩
theorem heap_new (w : World) (o : Obj) : (w.alloc o).heap[w.heap.size]? = some o := heap_alloc_new w o
theorem size_new (w : World) (o : Obj) : w.heap.size ≤ (w.alloc o).heap.size := by rw [World.size_alloc]; exact Nat.le_succ _

theorem HR.noRow {c : Cx} (h : HR c) {id : Nat} (hn : c.φ id = none) : c.σ id = none := by
  cases hs : c.σ id with
  | none => rfl
  | some o =>
    obtain ⟨y, e, cells⟩ := o
    rcases h.row id y e cells hs with ⟨h1, _⟩ | ⟨b, cs, h1, _⟩ <;> rw [hn] at h1 <;> cases h1
def Cx.put (c : Cx) (w : World) (id : Nat) (x : Option Nat) (W : List (Nat × Option AObj)) : Cx := ⟨w, c.B, fun k => if k = id then some x else c.φ k, app c.σ W, c.X, c.Y⟩

/-- another tape place -/
theorem Then.drew {c : Cx} (h : HR c) (nb : Nat) : Then c nb [] ⟨c.w.drew, c.B, c.φ, c.σ, c.X, c.Y⟩ := by
  have g : Grow c ⟨c.w.drew, c.B, c.φ, c.σ, c.X, c.Y⟩ := Still.grow ⟨rfl, rfl, rfl, rfl, rfl, rfl, Nat.le_refl _, fun _ _ _ => rfl, fun _ h => .inl h, fun _ cs _ f h => ⟨cs, f, h, rfl⟩⟩
  have n : Names c ⟨c.w.drew, c.B, c.φ, c.σ, c.X, c.Y⟩ := fun _ _ h => h
  refine ⟨g, n, ⟨fun id y e cells hs => ?_, h.inj, h.base, h.xlt, h.gl.grow g⟩, rfl, fun _ h => .inl h⟩
  rcases h.row id y e cells hs with h1 | ⟨b, cs, h1, h2, h3, h4, h5⟩
  · exact .inl h1
  · exact .inr ⟨b, cs, h1, h2, h3, h4, fun j a hj => by obtain ⟨u, e1, e2, e3⟩ := h5 j a hj; exact ⟨u, e1, e2, e3.mono g n⟩⟩

/-- a new row -/
theorem Then.alloc {c : Cx} (h : HR c) {nb : Nat} (hn : c.φ nb = none) (us : Array Value) (e : TypeId) (hne : e ≠ MAPE) (cells : List AV) (hl : cells.length ≤ us.size)
    (hv : ∀ (j : Nat) a, cells[j]? = some a → ∃ u, us[j]? = some u ∧ u.oneCell' = true ∧ VR c a u) (y : Bool) :
    Then c nb [(nb, some (.row y e cells))] (c.put (c.w.alloc (.cells us e)) nb (some c.w.heap.size) [(nb, some (.row y e cells))]) := by
  have hs := h.noRow hn
  generalize hd : c.put (c.w.alloc (.cells us e)) nb (some c.w.heap.size) [(nb, some (.row y e cells))] = d
  have dw : d.w = c.w.alloc (.cells us e) := by rw [← hd]; rfl
  have dφ : ∀ k, d.φ k = if k = nb then some (some c.w.heap.size) else c.φ k := by rw [← hd]; intro k; rfl
  have dσ : ∀ k, d.σ k = if k = nb then some (.row y e cells) else c.σ k := by rw [← hd]; intro k; rfl
  have dB : d.B = c.B := by rw [← hd]; rfl
  have dX : d.X = c.X := by rw [← hd]; rfl
  have dY : d.Y = c.Y := by rw [← hd]; rfl
  have g : Grow c d := by
    refine Still.grow ⟨dY, dX, dB, by rw [dw]; rfl, by rw [dw]; rfl, by rw [dw]; rfl, by rw [dw]; exact size_new _ _, fun b hb _ => by rw [dw]; exact Below.heap_alloc _ _ _ hb, ?_, fun b cs e' f hb => ⟨cs, f, ?_, rfl⟩⟩
    · rintro b ⟨id, o, h1, h2⟩
      rw [dσ] at h1
      rw [dφ] at h2
      by_cases e1 : id = nb
      · rw [if_pos e1] at h2; simp at h2; exact .inr (by omega)
      · rw [if_neg e1] at h1 h2; exact .inl ⟨id, o, h1, h2⟩
    · rw [dw, Below.heap_alloc _ _ _ (by rw [Array.getElem?_eq_some_iff] at hb; exact hb.1)]; exact hb
  have n : Names c d := fun k x hk => by rw [dφ, if_neg (by intro e1; rw [e1, hn] at hk; cases hk)]; exact hk
  refine ⟨g, n, ⟨fun id y' e' cells' h1 => ?_, fun id id' b h1 h2 h3 h4 => ?_, by rw [dB]; exact Nat.le_trans h.base g.size, fun b hb => by rw [dX] at hb; exact Nat.lt_of_lt_of_le (h.xlt b hb) g.size, h.gl.grow g⟩, by rw [← hd]; rfl, fun id hid => ?_⟩
  · rw [dσ] at h1
    by_cases e1 : id = nb
    · rw [if_pos e1] at h1
      simp at h1
      obtain ⟨rfl, rfl, rfl⟩ := h1
      refine .inr ⟨c.w.heap.size, us, by rw [dφ, if_pos e1], by rw [dw]; exact Blk.mk hne (heap_new _ _), ⟨fun _ => by rw [dB]; exact h.base, by rw [dX]; exact fun hx => Nat.lt_irrefl _ (h.xlt _ hx)⟩, hl, fun j a hj => ?_⟩
      obtain ⟨u, h1, h2, h3⟩ := hv j a hj
      exact ⟨u, h1, h2, h3.mono g n⟩
    · rw [if_neg e1] at h1
      rcases h.row id y' e' cells' h1 with ⟨h2, h3⟩ | ⟨b, cs, h2, h3, h4, h5, h6⟩
      · exact .inl ⟨n _ _ h2, h3⟩
      · refine .inr ⟨b, cs, n _ _ h2, ?_, ⟨fun hy => by rw [dB]; exact h4.1 hy, by rw [dX]; exact h4.2⟩, h5, fun j a hj => ?_⟩
        · exact h3.of (by rw [dw, Below.heap_alloc _ _ _ h3.lt])
        · obtain ⟨u, h7, h8, h9⟩ := h6 j a hj
          exact ⟨u, h7, h8, h9.mono g n⟩
  · have old : ∀ k b', d.σ k ≠ none → k ≠ nb → c.φ k = some (some b') → b' < c.w.heap.size := by
      intro k b' hk hkn hb'
      rw [dσ, if_neg hkn] at hk
      obtain ⟨o, ho⟩ := Option.ne_none_iff_exists'.1 hk
      obtain ⟨y1, e1, c1⟩ := o
      rcases h.row k y1 e1 c1 ho with ⟨h5, _⟩ | ⟨b2, cs2, h5, h6, _⟩
      · rw [hb'] at h5; cases h5
      · rw [hb'] at h5; cases h5; exact h6.lt
    rw [dφ] at h3 h4
    by_cases e1 : id = nb <;> by_cases e2 : id' = nb
    · rw [e1, e2]
    · rw [if_pos e1] at h3; rw [if_neg e2] at h4
      have := old id' b h2 e2 h4
      simp at h3; omega
    · rw [if_neg e1] at h3; rw [if_pos e2] at h4
      have := old id b h1 e1 h3
      simp at h4; omega
    · rw [if_neg e1] at h3; rw [if_neg e2] at h4
      rw [dσ, if_neg e1] at h1
      rw [dσ, if_neg e2] at h2
      exact h.inj id id' b h1 h2 h3 h4
  · rw [dφ] at hid
    by_cases e1 : id = nb
    · exact .inr (by omega)
    · rw [if_neg e1] at hid; exact .inl hid

/-- a cell of another's block that may be written is written -/
theorem Then.wild {c : Cx} (h : HR c) (nb : Nat) {k : WK} {b o : Nat} {x : Value} (hw : c.wok k b (o + 1)) (hx : kindIs k x) : Then c nb [] ⟨c.w.setCells b o [x], c.B, c.φ, c.σ, c.X, c.Y⟩ := by
  generalize hd : (⟨c.w.setCells b o [x], c.B, c.φ, c.σ, c.X, c.Y⟩ : Cx) = d
  have dw : d.w = c.w.setCells b o [x] := by rw [← hd]
  have dφ : d.φ = c.φ := by rw [← hd]
  have dσ : d.σ = c.σ := by rw [← hd]
  have dB : d.B = c.B := by rw [← hd]
  have dX : d.X = c.X := by rw [← hd]
  have dY : d.Y = c.Y := by rw [← hd]
  obtain ⟨hX, hT, hY, hk, sz, ⟨cs, e, hb, hsz, hcs⟩, hle⟩ := hw
  obtain ⟨w1, w2, w3, w4⟩ := setCells_out b [x] c.w o
  have hnb := setCells_heap [x] c.w cs o hb
  have hT' : ∀ j, d.T j ↔ c.T j := fun j => by unfold Cx.T; rw [dσ, dφ]
  have g : Grow c d := by
    refine ⟨dX, dB, by rw [dw, w2], by rw [dw, w3], by rw [dw, w4], by rw [dw, w1]; exact Nat.le_refl _, fun j hj ht hy => ?_, fun j hj => .inl ((hT' j).1 hj), fun j cs' e' f hj => ?_, dY, fun j q sz' h1 h2 h3 h4 h5 => ?_⟩
    · rw [dw]
      refine setCells_other (fun e1 => ?_) _ _ _
      subst e1
      rw [hY] at hy
      rcases hk with rfl | rfl <;> cases hy hX
    · by_cases e1 : j = b
      · subst e1
        rw [hb] at hj
        cases hj
        exact ⟨_, _, by rw [dw]; exact hnb, setA_size _ _ _⟩
      · exact ⟨cs', f, by rw [dw, setCells_other e1]; exact hj, rfl⟩
    · by_cases e1 : j = b
      · subst e1
        obtain ⟨cs', e', h6, h7, h8⟩ := h5
        rw [hb] at h6
        cases h6
        have hq : q = k := by rw [← h3, hY]
        subst hq
        refine ⟨_, _, by rw [dw]; exact hnb, by rw [setA_size]; exact h7, fun i y hi hy => ?_⟩
        rw [setA_get _ _ _ _ (by simp; omega)] at hy
        split at hy
        · rename_i hin
          have : i - o = 0 := by simp at hin; omega
          rw [this] at hy
          simp at hy
          subst hy
          exact hx
        · exact h8 i y hi hy
      · obtain ⟨cs', e', h6, h7⟩ := h5
        exact ⟨cs', e', by rw [dw, setCells_other e1]; exact h6, h7⟩
  have n : Names c d := fun k x hk => by rw [dφ]; exact hk
  refine ⟨g, n, ⟨fun i y' e' cl h1 => ?_, fun i i' b' h1 h2 h3 h4 => ?_, by rw [dB]; exact Nat.le_trans h.base g.size, fun b hb => by rw [dX] at hb; exact Nat.lt_of_lt_of_le (h.xlt b hb) g.size, h.gl.grow g⟩, by rw [← hd]; rfl, fun k hk => by rw [dφ] at hk; exact .inl hk⟩
  · rw [dσ] at h1
    rcases h.row i y' e' cl h1 with ⟨h2, h3⟩ | ⟨b2, cs2, h2, h3, h4, h5, h6⟩
    · exact .inl ⟨n _ _ h2, h3⟩
    · have hne : b2 ≠ b := fun e2 => h4.2 (by rw [e2]; exact hX)
      refine .inr ⟨b2, cs2, n _ _ h2, h3.of (by rw [dw, setCells_other hne]), ⟨fun hy => by rw [dB]; exact h4.1 hy, by rw [dX]; exact h4.2⟩, h5, fun j a hj => ?_⟩
      obtain ⟨u, h7, h8, h9⟩ := h6 j a hj
      exact ⟨u, h7, h8, h9.mono g n⟩
  · rw [dσ] at h1 h2
    rw [dφ] at h3 h4
    exact h.inj i i' b' h1 h2 h3 h4

/-- cells of a row are written: the row's known cells are cells' now -/
theorem Then.store {c : Cx} (h : HR c) (nb : Nat) {id b : Nat} {y : Bool} {e : TypeId} {cells cells' : List AV} {cs : Array Value} (hid : c.σ id = some (.row y e cells)) (hφ : c.φ id = some (some b))
    (hb : c.w.heap[b]? = some (.cells cs e (0, 0))) (o : Nat) (us : List Value) (ho : o + us.length ≤ cs.size) (hl : cells'.length ≤ cs.size)
    (hv : ∀ (j : Nat) a, cells'[j]? = some a → ∃ u, (setA cs o us)[j]? = some u ∧ u.oneCell' = true ∧ VR c a u) :
    Then c nb [(id, some (.row y e cells'))] ⟨c.w.setCells b o us, c.B, c.φ, app c.σ [(id, some (.row y e cells'))], c.X, c.Y⟩ := by
  generalize hd : (⟨c.w.setCells b o us, c.B, c.φ, app c.σ [(id, some (.row y e cells'))], c.X, c.Y⟩ : Cx) = d
  have dw : d.w = c.w.setCells b o us := by rw [← hd]
  have dφ : d.φ = c.φ := by rw [← hd]
  have dσ : ∀ k, d.σ k = if k = id then some (.row y e cells') else c.σ k := by rw [← hd]; intro k; rfl
  have dB : d.B = c.B := by rw [← hd]
  have dX : d.X = c.X := by rw [← hd]
  have dY : d.Y = c.Y := by rw [← hd]
  obtain ⟨w1, w2, w3, w4⟩ := setCells_out b us c.w o
  have hT : c.T b := ⟨id, _, hid, hφ⟩
  have g : Grow c d := by
    refine Still.grow ⟨dY, dX, dB, by rw [dw, w2], by rw [dw, w3], by rw [dw, w4], by rw [dw, w1]; exact Nat.le_refl _, fun k hk ht => by rw [dw]; exact setCells_other (fun e1 => ht (by rw [e1]; exact hT)) _ _ _, ?_, fun k cs' e' f hk => ?_⟩
    · rintro k ⟨i, ob, h1, h2⟩
      rw [dσ] at h1
      rw [dφ] at h2
      by_cases e1 : i = id
      · exact .inl ⟨id, _, hid, by rw [← e1]; exact h2⟩
      · rw [if_neg e1] at h1; exact .inl ⟨i, ob, h1, h2⟩
    · by_cases e1 : k = b
      · subst e1
        rw [hb] at hk
        cases hk
        exact ⟨_, _, by rw [dw]; exact setCells_heap us c.w cs o hb, setA_size _ _ _⟩
      · exact ⟨cs', f, by rw [dw, setCells_other e1]; exact hk, rfl⟩
  have n : Names c d := fun k x hk => by rw [dφ]; exact hk
  have live : ∀ k, d.σ k ≠ none → c.σ k ≠ none := fun k hk => by
    rw [dσ] at hk
    by_cases e1 : k = id
    · rw [e1, hid]; simp
    · rwa [if_neg e1] at hk
  refine ⟨g, n, ⟨fun k y' e' cl h1 => ?_, fun i i' b' h1 h2 h3 h4 => ?_, by rw [dB]; exact Nat.le_trans h.base g.size, fun b hb => by rw [dX] at hb; exact Nat.lt_of_lt_of_le (h.xlt b hb) g.size, h.gl.grow g⟩, by rw [← hd], fun k hk => by rw [dφ] at hk; exact .inl hk⟩
  · rw [dσ] at h1
    by_cases e1 : k = id
    · rw [if_pos e1] at h1
      simp at h1
      obtain ⟨rfl, rfl, rfl⟩ := h1
      rcases h.row id y e cells hid with ⟨h2, _⟩ | ⟨b2, cs2, h2, h3, h4, _⟩
      · rw [hφ] at h2; cases h2
      · rw [hφ] at h2; cases h2
        refine .inr ⟨b, setA cs o us, by rw [e1, dφ]; exact hφ, by rw [dw]; exact Blk.mk (h3.ne ⟨_, _, _, hb⟩) (setCells_heap us c.w cs o hb), ⟨fun hy => by rw [dB]; exact h4.1 hy, by rw [dX]; exact h4.2⟩, by rw [setA_size]; exact hl, fun j a hj => ?_⟩
        obtain ⟨u, h5, h6, h7⟩ := hv j a hj
        exact ⟨u, h5, h6, h7.mono g n⟩
    · rw [if_neg e1] at h1
      rcases h.row k y' e' cl h1 with ⟨h2, h3⟩ | ⟨b2, cs2, h2, h3, h4, h5, h6⟩
      · exact .inl ⟨n _ _ h2, h3⟩
      · have hne : b2 ≠ b := fun e2 => e1 (h.inj k id b (by rw [h1]; simp) (by rw [hid]; simp) (by rw [← e2]; exact h2) hφ)
        refine .inr ⟨b2, cs2, n _ _ h2, h3.of (by rw [dw, setCells_other hne]), ⟨fun hy => by rw [dB]; exact h4.1 hy, by rw [dX]; exact h4.2⟩, h5, fun j a hj => ?_⟩
        obtain ⟨u, h7, h8, h9⟩ := h6 j a hj
        exact ⟨u, h7, h8, h9.mono g n⟩
  · rw [dφ] at h3 h4
    exact h.inj i i' b' (live i h1) (live i' h2) h3 h4

/-- a row is called by another name; it may have new cells (its block is the same, or a new one, or none) -/
theorem Then.rename {c : Cx} (h : HR c) {nb id b : Nat} (hn : c.φ nb = none) (hne : id ≠ nb) {y : Bool} {e : TypeId} {cells : List AV} (hid : c.σ id = some (.row y e cells)) (hφ : c.φ id = some (some b)) :
    Then c nb [(id, none), (nb, some (.row y e cells))] (c.put c.w nb (some b) [(id, none), (nb, some (.row y e cells))]) := by
  generalize hd : c.put c.w nb (some b) [(id, none), (nb, some (.row y e cells))] = d
  have dw : d.w = c.w := by rw [← hd]; rfl
  have dφ : ∀ k, d.φ k = if k = nb then some (some b) else c.φ k := by rw [← hd]; intro k; rfl
  have dσ : ∀ k, d.σ k = if k = nb then some (.row y e cells) else if k = id then none else c.σ k := by rw [← hd]; intro k; rfl
  have dB : d.B = c.B := by rw [← hd]; rfl
  have dX : d.X = c.X := by rw [← hd]; rfl
  have dY : d.Y = c.Y := by rw [← hd]; rfl
  have g : Grow c d := by
    refine Still.grow ⟨dY, dX, dB, by rw [dw], by rw [dw], by rw [dw], by rw [dw]; exact Nat.le_refl _, fun k hk ht => by rw [dw], ?_, fun k cs' e' f hk => ⟨cs', f, by rw [dw]; exact hk, rfl⟩⟩
    rintro k ⟨i, ob, h1, h2⟩
    rw [dσ] at h1
    rw [dφ] at h2
    by_cases e1 : i = nb
    · rw [if_pos e1] at h2; cases h2; exact .inl ⟨id, _, hid, hφ⟩
    · rw [if_neg e1] at h1 h2
      by_cases e2 : i = id
      · rw [if_pos e2] at h1; cases h1
      · rw [if_neg e2] at h1; exact .inl ⟨i, ob, h1, h2⟩
  have n : Names c d := fun k x hk => by rw [dφ, if_neg (by intro e1; rw [e1, hn] at hk; cases hk)]; exact hk
  have hnb := h.noRow hn
  refine ⟨g, n, ⟨fun k y' e' cl h1 => ?_, fun i i' b' h1 h2 h3 h4 => ?_, by rw [dB]; exact Nat.le_trans h.base g.size, fun b hb => by rw [dX] at hb; exact Nat.lt_of_lt_of_le (h.xlt b hb) g.size, h.gl.grow g⟩, by rw [← hd]; rfl, fun k hk => ?_⟩
  · rw [dσ] at h1
    by_cases e1 : k = nb
    · rw [if_pos e1] at h1
      simp at h1
      obtain ⟨rfl, rfl, rfl⟩ := h1
      rcases h.row id y e cells hid with ⟨h2, _⟩ | ⟨b2, cs2, h2, h3, h4, h5, h6⟩
      · rw [hφ] at h2; cases h2
      · rw [hφ] at h2; cases h2
        refine .inr ⟨b, cs2, by rw [dφ, if_pos e1], by rw [dw]; exact h3, ⟨fun hy => by rw [dB]; exact h4.1 hy, by rw [dX]; exact h4.2⟩, h5, fun j a hj => ?_⟩
        obtain ⟨u, h7, h8, h9⟩ := h6 j a hj
        exact ⟨u, h7, h8, h9.mono g n⟩
    · rw [if_neg e1] at h1
      split at h1
      · cases h1
      rcases h.row k y' e' cl h1 with ⟨h2, h3⟩ | ⟨b2, cs2, h2, h3, h4, h5, h6⟩
      · exact .inl ⟨n _ _ h2, h3⟩
      · refine .inr ⟨b2, cs2, n _ _ h2, by rw [dw]; exact h3, ⟨fun hy => by rw [dB]; exact h4.1 hy, by rw [dX]; exact h4.2⟩, h5, fun j a hj => ?_⟩
        obtain ⟨u, h7, h8, h9⟩ := h6 j a hj
        exact ⟨u, h7, h8, h9.mono g n⟩
  · have bk : ∀ k, d.σ k ≠ none → ∃ k', c.σ k' ≠ none ∧ c.φ k' = d.φ k ∧ (k = nb ∧ k' = id ∨ k ≠ nb ∧ k' = k ∧ k ≠ id) := by
      intro k hk
      by_cases e1 : k = nb
      · exact ⟨id, by rw [hid]; simp, by rw [dφ, if_pos e1, hφ], .inl ⟨e1, rfl⟩⟩
      · rw [dσ, if_neg e1] at hk
        by_cases e2 : k = id
        · rw [if_pos e2] at hk; exact absurd rfl hk
        · rw [if_neg e2] at hk; exact ⟨k, hk, by rw [dφ, if_neg e1], .inr ⟨e1, rfl, e2⟩⟩
    obtain ⟨k1, a1, a2, a3⟩ := bk i h1
    obtain ⟨k2, b1, b2, b3⟩ := bk i' h2
    have := h.inj k1 k2 b' a1 b1 (a2.trans h3) (b2.trans h4)
    omega
  · rw [dφ] at hk
    by_cases e1 : k = nb
    · exact .inr (by omega)
    · rw [if_neg e1] at hk; exact .inl hk

/-- one behind the other -/
theorem app_append (σ : Heap) (W W' : List (Nat × Option AObj)) : app (app σ W) W' = app σ (W ++ W') := by
  induction W generalizing σ with
  | nil => rfl
  | cons x W ih => exact ih _
theorem Then.trans {c d f : Cx} {nb : Nat} {W W' : List (Nat × Option AObj)} (h : Then c nb W d) (k : Then d nb W' f) : Then c nb (W ++ W') f :=
  ⟨h.grow.trans k.grow, h.names.trans k.names, k.hr, by rw [k.σ, h.σ, app_append], fun id hid => by
    rcases k.fresh id hid with h1 | h1
    · exact h.fresh id h1
    · exact .inr h1⟩
theorem Then.eqW {c d : Cx} {nb : Nat} {W W' : List (Nat × Option AObj)} (h : Then c nb W d) (e : app c.σ W = app c.σ W') : Then c nb W' d := ⟨h.grow, h.names, h.hr, by rw [h.σ, e], h.fresh⟩
/-- an empty row without a block -/
theorem Then.virtual {c : Cx} (h : HR c) {nb : Nat} (hn : c.φ nb = none) (y : Bool) (e : TypeId) (hneM : e ≠ MAPE) : Then c nb [(nb, some (.row y e []))] (c.put c.w nb none [(nb, some (.row y e []))]) := by
  have hs := h.noRow hn
  generalize hd : c.put c.w nb none [(nb, some (.row y e []))] = d
  have dw : d.w = c.w := by rw [← hd]; rfl
  have dφ : ∀ k, d.φ k = if k = nb then some none else c.φ k := by rw [← hd]; intro k; rfl
  have dσ : ∀ k, d.σ k = if k = nb then some (.row y e []) else c.σ k := by rw [← hd]; intro k; rfl
  have dB : d.B = c.B := by rw [← hd]; rfl
  have dX : d.X = c.X := by rw [← hd]; rfl
  have dY : d.Y = c.Y := by rw [← hd]; rfl
  have g : Grow c d := by
    refine Still.grow ⟨dY, dX, dB, by rw [dw], by rw [dw], by rw [dw], by rw [dw]; exact Nat.le_refl _, fun k hk ht => by rw [dw], ?_, fun k cs' e' f hk => ⟨cs', f, by rw [dw]; exact hk, rfl⟩⟩
    rintro k ⟨i, ob, h1, h2⟩
    rw [dσ] at h1
    rw [dφ] at h2
    by_cases e1 : i = nb
    · rw [if_pos e1] at h2; cases h2
    · rw [if_neg e1] at h1 h2; exact .inl ⟨i, ob, h1, h2⟩
  have n : Names c d := fun k x hk => by rw [dφ, if_neg (by intro e1; rw [e1, hn] at hk; cases hk)]; exact hk
  refine ⟨g, n, ⟨fun k y' e' cl h1 => ?_, fun i i' b' h1 h2 h3 h4 => ?_, by rw [dB]; exact Nat.le_trans h.base g.size, fun b hb => by rw [dX] at hb; exact Nat.lt_of_lt_of_le (h.xlt b hb) g.size, h.gl.grow g⟩, by rw [← hd]; rfl, fun k hk => ?_⟩
  · rw [dσ] at h1
    by_cases e1 : k = nb
    · rw [if_pos e1] at h1
      simp at h1
      obtain ⟨rfl, rfl, rfl⟩ := h1
      exact .inl ⟨by rw [dφ, if_pos e1], rfl, hneM⟩
    · rw [if_neg e1] at h1
      rcases h.row k y' e' cl h1 with ⟨h2, h3⟩ | ⟨b2, cs2, h2, h3, h4, h5, h6⟩
      · exact .inl ⟨n _ _ h2, h3⟩
      · refine .inr ⟨b2, cs2, n _ _ h2, by rw [dw]; exact h3, ⟨fun hy => by rw [dB]; exact h4.1 hy, by rw [dX]; exact h4.2⟩, h5, fun j a hj => ?_⟩
        obtain ⟨u, h7, h8, h9⟩ := h6 j a hj
        exact ⟨u, h7, h8, h9.mono g n⟩
  · rw [dφ] at h3 h4
    by_cases e1 : i = nb
    · rw [if_pos e1] at h3; cases h3
    · by_cases e2 : i' = nb
      · rw [if_pos e2] at h4; cases h4
      · rw [if_neg e1] at h3; rw [if_neg e2] at h4
        rw [dσ, if_neg e1] at h1
        rw [dσ, if_neg e2] at h2
        exact h.inj i i' b' h1 h2 h3 h4
  · rw [dφ] at hk
    by_cases e1 : k = nb
    · exact .inr (by omega)
    · rw [if_neg e1] at hk; exact .inl hk
/-- a row is let go -/
theorem Then.drop {c : Cx} (h : HR c) (nb id : Nat) : Then c nb [(id, none)] ⟨c.w, c.B, c.φ, app c.σ [(id, none)], c.X, c.Y⟩ := by
  generalize hd : (⟨c.w, c.B, c.φ, app c.σ [(id, none)], c.X, c.Y⟩ : Cx) = d
  have dw : d.w = c.w := by rw [← hd]
  have dφ : d.φ = c.φ := by rw [← hd]
  have dσ : ∀ k, d.σ k = if k = id then none else c.σ k := by rw [← hd]; intro k; rfl
  have dB : d.B = c.B := by rw [← hd]
  have dX : d.X = c.X := by rw [← hd]
  have dY : d.Y = c.Y := by rw [← hd]
  have live : ∀ k o, d.σ k = some o → c.σ k = some o := fun k o hk => by
    rw [dσ] at hk
    split at hk
    · cases hk
    · exact hk
  have g : Grow c d := by
    refine Still.grow ⟨dY, dX, dB, by rw [dw], by rw [dw], by rw [dw], by rw [dw]; exact Nat.le_refl _, fun k hk ht => by rw [dw], ?_, fun k cs' e' f hk => ⟨cs', f, by rw [dw]; exact hk, rfl⟩⟩
    rintro k ⟨i, ob, h1, h2⟩
    exact .inl ⟨i, ob, live i ob h1, by rw [← dφ]; exact h2⟩
  have n : Names c d := fun k x hk => by rw [dφ]; exact hk
  refine ⟨g, n, ⟨fun k y' e' cl h1 => ?_, fun i i' b' h1 h2 h3 h4 => ?_, by rw [dB]; exact Nat.le_trans h.base g.size, fun b hb => by rw [dX] at hb; exact Nat.lt_of_lt_of_le (h.xlt b hb) g.size, h.gl.grow g⟩, by rw [← hd], fun k hk => by rw [dφ] at hk; exact .inl hk⟩
  · rcases h.row k y' e' cl (live k _ h1) with ⟨h2, h3⟩ | ⟨b2, cs2, h2, h3, h4, h5, h6⟩
    · exact .inl ⟨n _ _ h2, h3⟩
    · refine .inr ⟨b2, cs2, n _ _ h2, by rw [dw]; exact h3, ⟨fun hy => by rw [dB]; exact h4.1 hy, by rw [dX]; exact h4.2⟩, h5, fun j a hj => ?_⟩
      obtain ⟨u, h7, h8, h9⟩ := h6 j a hj
      exact ⟨u, h7, h8, h9.mono g n⟩
  · rw [dφ] at h3 h4
    obtain ⟨o1, ho1⟩ := Option.ne_none_iff_exists'.1 h1
    obtain ⟨o2, ho2⟩ := Option.ne_none_iff_exists'.1 h2
    exact h.inj i i' b' (by rw [live i _ ho1]; simp) (by rw [live i' _ ho2]; simp) h3 h4
end Go.Proofs.YtonglhkiobibgaaGreatDoor
namespace Go.Proofs.YtonglhkiobibgaaGreatDoor
open Go.RowKit

/-- what a struct's field is: a whole number, a bool, a string -/
inductive EK where
  | i
  | b
  | s
/-- The operations that are known, with what their types say written out. -/
inductive AO where
  | mv (x : Operand)
  | pick (c a b : Operand)
  | new (e : Nat) (z : List Value)
  | box (e : Nat) (x : Operand)
  | build (z : List Value) (ps : List (Nat × Nat × Operand))
  | bslice (e sz n : Nat) (z : List Value) (ps : List (Nat × Nat × Operand))
  | load (ag : Bool) (n : Nat) (a : Operand)
  | store (n : Nat) (a x : Operand)
  | foff (k : Nat) (a : Operand)
  | idx (sz : Nat) (x i : Operand)
  | fld (ag : Bool) (off n : Nat) (x : Operand)
  | bin (o : BinOp) (x y : Operand)
  | beq (neg : Bool) (x y : Operand)
  | eqs (neg : Bool) (ks : List EK) (x y : Operand)
  | isnil (neg : Bool) (z : Value) (x : Operand)
  | un (o : UnOp) (x : Operand)
  | conv (k : IntKind) (x : Operand)
  | len (str : Bool) (x : Operand)
  | append (e sz bytes : Nat) (x y : Operand)
  | call (f : Nat) (args : List Operand)
  | callv (g : Operand) (args : List Operand)
  | ext (i : Nat) (x : Operand)
  | slice (sz : Nat) (x : Operand) (lo hi : Option Operand)
  | mksl (e sz bytes : Nat) (z : List Value) (n c : Operand)
  | clo (f : Nat) (caps : List Operand)
  | nilc (x : Operand)
  | sconv (x : Operand)
  | b2s (x : Operand)
  | mm (mx : Bool) (x y : Operand)
  | mkif (t : Nat) (x : Operand)
  | die
  | aidx (sz n : Nat) (x i : Operand)
  | cap (x : Operand)
  | appz (e sz bytes : Nat) (z : List Value) (x n : Operand)
  | copy (x y : Operand)
  | slice0 (e sz : Nat) (x : Operand)
  | sidx (x i : Operand)
  | mkmap
  | mlook (z : Value) (ok : Bool) (m k : Operand)
  | mupd (m k v : Operand)
  | mlen (m : Operand)
  | sslice (x : Operand) (lo hi : Option Operand)
  | s2b (x : Operand)
  | mlook0 (ks : List EK) (z : Value) (ok : Bool) (m k : Operand)

/-- arithmetic and comparisons of whole numbers and strings -/
def intVal (op : BinOp) (k : IntKind) (a b : Int) : Option Value :=
  match op with
  | .add => some (.int k (k.wrap (a + b)))
  | .sub => some (.int k (k.wrap (a - b)))
  | .mul => some (.int k (k.wrap (a * b)))
  | .quo => if b = 0 then none else some (.int k (k.wrap (a.tdiv b)))
  | .rem => if b = 0 then none else some (.int k (a.tmod b))
  | .and => some (.int k (k.wrap (BitVec.ofInt k.bits a &&& BitVec.ofInt k.bits b).toNat))
  | .or => some (.int k (k.wrap (BitVec.ofInt k.bits a ||| BitVec.ofInt k.bits b).toNat))
  | .xor => some (.int k (k.wrap (BitVec.ofInt k.bits a ^^^ BitVec.ofInt k.bits b).toNat))
  | .eql => some (.bool (decide (a = b)))
  | .neq => some (.bool (!decide (a = b)))
  | .lss => some (.bool (decide (a < b)))
  | .leq => some (.bool (decide (a ≤ b)))
  | .gtr => some (.bool (decide (b < a)))
  | .geq => some (.bool (decide (b ≤ a)))
  | _ => none
def shVal (op : BinOp) (k : IntKind) (a b : Int) : Option Value :=
  match op with
  | .shl => if b < 0 then none else some (.int k (k.wrap (a * 2 ^ (min b.toNat k.bits))))
  | .shr => if b < 0 then none else some (.int k (a.fdiv (2 ^ (min b.toNat k.bits))))
  | _ => none
def isSh : BinOp → Bool
  | .shl | .shr => true
  | _ => false
def strOp (op : BinOp) (a b : ByteArray) : Option Value :=
  match op with
  | .add => if a.size + b.size ≤ 9223372036854775807 then some (.string (a ++ b)) else none
  | .eql => some (.bool (decide (a = b)))
  | .neq => some (.bool (!decide (a = b)))
  | .lss => some (.bool (Op.bytesLess a.toList b.toList))
  | .geq => some (.bool (!Op.bytesLess a.toList b.toList))
  | .leq => some (.bool (Op.bytesLess a.toList b.toList || decide (a = b)))
  | .gtr => some (.bool (!(Op.bytesLess a.toList b.toList || decide (a = b))))
  | _ => none
def binVal (op : BinOp) : Value → Value → Option Value
  | .int k a, .int k' b => if isSh op = true then shVal op k a b else if k = k' then intVal op k a b else none
  | .string a, .string b => strOp op a b
  | _, _ => none
def unVal (op : UnOp) : Value → Option Value
  | .bool b => match op with | .not => some (.bool (!b)) | _ => none
  | .int k a => match op with | .neg => some (.int k (k.wrap (0 - a))) | .xor => some (.int k (k.wrap (BitVec.ofInt k.bits (if k.signed then -1 else k.max) ^^^ BitVec.ofInt k.bits a).toNat)) | _ => none
  | _ => none
def ldA (ag : Bool) (n : Nat) (cells : List AV) (off : Nat) : AM :=
  if ag then (match getN cells off n with | some l => .ret (.agg l) [] | none => .fail) else (match cells[off]? with | some x => .ret x [] | none => .fail)
/-- what is appended: how many, and the cells -/
def srcA (sz : Nat) (a : AV) (k : Nat → List AV → AM) : AM :=
  match a with
  | .fs _ cs m => if cs.length = m * sz then k m cs else .fail
  | .os id off m sz' => .rd id fun | .row _ _ cells => if sz' = sz ∧ ((cells.drop off).take (m * sz)).length = m * sz then k m ((cells.drop off).take (m * sz)) else .fail
  | .v (.slice _ 0 _) => k 0 []
  | _ => .fail
def appA (nb e sz bytes : Nat) (a : AV) (m : Nat) (l : List AV) : AM :=
  match a with
  | .v (.slice none 0 0) => if m * bytes ≤ 140737488355328 then .ret (.os nb 0 m sz) [(nb, some (.row true e l))] else .fail
  | .os id 0 n sz' => .rd id fun | .row y e' cells => if e' = e ∧ sz' = sz ∧ cells.length = n * sz ∧ (n + m) * bytes ≤ 140737488355328 then .ret (.os nb 0 (n + m) sz) [(id, none), (nb, some (.row y e (cells ++ l)))] else .fail
  | _ => .fail
/-- bounds of a slicing: from, to -/
def lohi (n : Nat) (lo hi : Option AV) : Option (Nat × Nat) :=
  match lo, hi with
  | none, none => some (0, n)
  | some (.v (.int _ l)), none => if 0 ≤ l ∧ l ≤ n then some (l.toNat, n) else none
  | none, some (.v (.int _ h)) => if 0 ≤ h ∧ h ≤ n then some (0, h.toNat) else none
  | some (.v (.int _ l)), some (.v (.int _ h)) => if 0 ≤ l ∧ l ≤ h ∧ h ≤ n then some (l.toNat, h.toNat) else none
  | _, _ => none
def loadA (ag : Bool) (n : Nat) (a : AV) : AM :=
  match a with
  | .op id off => .rd id fun | .row _ _ cells => ldA ag n cells off
  | .fp _ cells off => ldA ag n cells off
  | .wp k => if ag = false then .ret (.wv k) [] else .fail
  | _ => .fail
def storeA (n : Nat) (a x : AV) : AM :=
  match a with
  | .op id off => match cellsOf x with
    | some l => .rd id fun | .row y e cells => if l.length = n ∧ off + n ≤ cells.length then .ret .any [(id, some (.row y e (setN cells off l)))] else .fail
    | none => .fail
  | .wp k => match x with
    | .wv k' => if k' = k ∧ n = 1 then .ret .any [] else .fail
    | _ => .fail
  | _ => .fail
def foffA (k : Nat) (a : AV) : AM :=
  match a with
  | .op id off => .ret (.op id (off + k)) []
  | .fp fr cs off => .ret (.fp fr cs (off + k)) []
  | _ => .fail
def idxA (sz : Nat) (a x : AV) : AM :=
  match x with
  | .v (.int _ i) => match a with
    | .fs fr cs n => if 0 ≤ i ∧ i < n then .ret (.fp fr cs (i.toNat * sz)) [] else .fail
    | .os id off n _ => if 0 ≤ i ∧ i < n then .ret (.op id (off + i.toNat * sz)) [] else .fail
    | .ws k n => if sz = 1 ∧ 0 ≤ i ∧ i < n then .ret (.wp k) [] else .fail
    | _ => .fail
  | _ => .fail
def fldA (ag : Bool) (off n : Nat) (a : AV) : AM :=
  match a with
  | .agg l => ldA ag n l off
  | _ => .fail
def isXor : BinOp → Bool
  | .xor => true
  | _ => false
def isNot : UnOp → Bool
  | .not => true
  | _ => false
def binA (op : BinOp) (a b : AV) : AM :=
  match a with
  | .wv .u8 => match b with
    | .v (.int .u8 _) => if isXor op = true then .ret (.wv .u8) [] else .fail
    | _ => .fail
  | .v p => match b with
    | .v q => match binVal op p q with | some r => .ret (.v r) [] | none => .fail
    | _ => .fail
  | _ => .fail
def beqA (neg : Bool) (a b : AV) : AM :=
  match a with
  | .v (.bool p) => match b with
    | .v (.bool q) => .ret (.v (.bool (decide (p = q) != neg))) []
    | _ => .fail
  | _ => .fail
/-- two structs of numbers (true) and bools (false): are they one? -/
def eqL : List EK → List AV → List AV → Option Bool
  | [], [], [] => some true
  | .i :: ks, .v (.int k x) :: r, .v (.int k' y) :: q => if k = k' then (match eqL ks r q with | some t => some (decide (x = y) && t) | none => none) else none
  | .b :: ks, .v (.bool x) :: r, .v (.bool y) :: q => match eqL ks r q with | some t => some (decide (x = y) && t) | none => none
  | .s :: ks, .v (.string x) :: r, .v (.string y) :: q => match eqL ks r q with | some t => some (decide (x = y) && t) | none => none
  | _, _, _ => none
def eqsA (neg : Bool) (ks : List EK) (a b : AV) : AM :=
  match a with
  | .agg l => match b with
    | .agg q => match eqL ks l q with | some t => .ret (.v (.bool (t != neg))) [] | none => .fail
    | _ => .fail
  | _ => .fail
def isnilA (neg : Bool) (z : Value) (a : AV) : AM :=
  match z, a with
  | .slice none 0 0, .v (.slice none _ _) | .pointer none, .v (.pointer none) => .ret (.v (.bool (!neg))) []
  | .slice none 0 0, .v (.slice (some _) _ _) => .ret (.v (.bool neg)) []
  | .slice none 0 0, .fs _ _ n | .slice none 0 0, .os _ _ n _ => if n = 0 then .fail else .ret (.v (.bool neg)) []
  | .pointer none, .op _ _ | .pointer none, .fp _ _ _ => .ret (.v (.bool neg)) []
  | .nilIface, .v .nilIface => .ret (.v (.bool (!neg))) []
  | .nilIface, .ifc _ _ => .ret (.v (.bool neg)) []
  | _, _ => .fail
def unA (op : UnOp) (a : AV) : AM :=
  match a with
  | .v a => match unVal op a with | some u => .ret (.v u) [] | none => .fail
  | .wv .bl => if isNot op = true then .ret (.wv .bl) [] else .fail
  | _ => .fail
def convA (k : IntKind) (a : AV) : AM :=
  match a with
  | .v (.int _ n) => .ret (.v (.int k (k.wrap n))) []
  | _ => .fail
def lenA (a : AV) : AM :=
  match a with
  | .fs _ _ n | .os _ _ n _ | .v (.slice _ n _) | .ws _ n => .ret (.v (.int .i64 n)) []
  | _ => .fail
def slenA (a : AV) : AM :=
  match a with
  | .v (.string s) => .ret (.v (.int .i64 s.size)) []
  | _ => .fail
def extA (i : Nat) (a : AV) : AM :=
  match a with
  | .tup l => (match l[i]? with | some a => .ret a [] | none => .fail)
  | _ => .fail
def sliceA (sz : Nat) (a : AV) (lo hi : Option AV) : AM :=
  match a with
  | .fs fr cs n => match lohi n lo hi with | some (l, h) => .ret (.fs fr ((cs.drop (l * sz)).take ((h - l) * sz)) (h - l)) [] | none => .fail
  | .os id off n sz' => match lohi n lo hi with | some (l, h) => if sz' = sz then .ret (.os id (off + l * sz) (h - l) sz) [] else .fail | none => .fail
  | .v (.slice none 0 0) => match lohi 0 lo hi with | some (_, _) => .ret (.v (.slice none 0 0)) [] | none => .fail
  | _ => .fail
def mkslA (nb e sz bytes : Nat) (z : List Value) (a x : AV) : AM :=
  match a with
  | .v (.int _ i) => match x with
    | .v (.int _ j) => if 0 ≤ i ∧ i ≤ j ∧ bytes * j ≤ 281474976710656 ∧ j ≤ 9223372036854775807 then .ret (.os nb 0 i.toNat sz) [(nb, some (.row true e (List.replicate i.toNat (z.map .v)).flatten))] else .fail
    | _ => .fail
  | _ => .fail
def nilA (a : AV) : AM :=
  match a with
  | .op id off => .ret (.op id off) []
  | .fp fr cs off => .ret (.fp fr cs off) []
  | _ => .fail
def pickA (t a b : AV) : AM :=
  match t with
  | .v (.bool t) => .ret (if t = true then a else b) []
  | _ => .fail
def boxA (nb e : Nat) (a : AV) : AM :=
  match cellsOf a with
  | some l => .ret (.op nb 0) [(nb, some (.row true e l))]
  | none => .fail
/-- octets that become a string's own -/
def sconvA (a : AV) : AM :=
  match a with
  | .os id off n sz => .rd id fun | .row y _ cells => if (off = 0 ∧ sz = 1) ∧ 0 < n ∧ cells.length = n then .ret (.fs y cells n) [(id, none)] else .fail
  | _ => .fail
def bytesOf : List AV → Option (List Int)
  | [] => some []
  | .v (.int .u8 x) :: r => match bytesOf r with | some l => some (x :: l) | none => none
  | _ => none
def strOf (l : List Int) : ByteArray := l.foldl (fun r n => r.push (UInt8.ofNat n.toNat)) .empty
def b2sOf (cs : List AV) : AM :=
  match bytesOf cs with
  | some l => .ret (.v (.string (strOf l))) []
  | none => .fail
def b2sA (a : AV) : AM :=
  match a with
  | .v (.slice none _ _) => .ret (.v (.string .empty)) []
  | .fs _ cs n => if cs.length = n then b2sOf cs else .fail
  | .os id off n sz => .rd id fun | .row _ _ cells => if sz = 1 ∧ ((cells.drop off).take n).length = n then b2sOf ((cells.drop off).take n) else .fail
  | _ => .fail
def mmA (mx : Bool) (a b : AV) : AM :=
  match a with
  | .v (.int k x) => match b with
    | .v (.int _ y) => .ret (.v (.int k (if mx = true then (if x < y then y else x) else (if y < x then y else x)))) []
    | _ => .fail
  | _ => .fail
/-- a[i] of an array that lies in memory -/
def aidxA (sz n : Nat) (a x : AV) : AM :=
  match x with
  | .v (.int _ i) => match a with
    | .fp fr cs off => if 0 ≤ i ∧ i < n then .ret (.fp fr cs (off + i.toNat * sz)) [] else .fail
    | .op id off => if 0 ≤ i ∧ i < n then .ret (.op id (off + i.toNat * sz)) [] else .fail
    | _ => .fail
  | _ => .fail
def capA (a : AV) : AM :=
  match a with
  | .v (.slice _ _ k) => .ret (.v (.int .i64 k)) []
  | _ => .fail
/-- nil with n zeros behind it -/
def appzA (nb e sz bytes : Nat) (z : List Value) (a x : AV) : AM :=
  match a with
  | .v (.slice none 0 0) => match x with
    | .v (.int .i64 i) => if 0 < i ∧ i.toNat * bytes ≤ 140737488355328 then .ret (.os nb 0 i.toNat sz) [(nb, some (.row true e (List.replicate i.toNat (z.map .v)).flatten))] else .fail
    | _ => .fail
  | .os id 0 n sz' => match x with
    | .v (.int .i64 i) => .rd id fun | .row y e' cells => if (e' = e ∧ sz' = sz ∧ cells.length = n * sz) ∧ 0 < i ∧ (n + i.toNat) * bytes ≤ 140737488355328 then .ret (.os nb 0 (n + i.toNat) sz) [(id, none), (nb, some (.row y e (cells ++ (List.replicate i.toNat (z.map .v)).flatten)))] else .fail
    | _ => .fail
  | _ => .fail
/-- octets are copied into a held row -/
def copyA (a : AV) (m : Nat) (l : List AV) : AM :=
  match a with
  | .os id off n sz => .rd id fun | .row y e cells => if (sz = 1 ∧ 0 < n) ∧ off + n ≤ cells.length then .ret (.v (.int .i64 (Nat.min m n))) [(id, some (.row y e (setN cells off (l.take (Nat.min m n)))))] else .fail
  | _ => .fail
/-- x[:0:0] -/
def slice0A (nb e sz : Nat) (a : AV) : AM :=
  match a with
  | .fs _ _ _ | .os _ _ _ _ => .ret (.os nb 0 0 sz) [(nb, some (.row true e []))]
  | .v (.slice none 0 0) => .ret (.v (.slice none 0 0)) []
  | _ => .fail
def sidxA (a x : AV) : AM :=
  match a with
  | .v (.string s) => match x with
    | .v (.int _ i) => if 0 ≤ i then (match s[i.toNat]? with | some b => .ret (.v (.int .u8 b.toNat)) [] | none => .fail) else .fail
    | _ => .fail
  | _ => .fail
/-- a map's cells: a key, its value, the next key, .. -/
def mfind (n : Int) : List AV → Option (Option AV)
  | [] => some none
  | .v (.int .i64 k) :: v :: r => if k = n then some (some v) else mfind n r
  | _ => none
def mput (n : Int) (v : AV) : List AV → Option (List AV)
  | [] => some [.v (.int .i64 n), v]
  | .v (.int .i64 k) :: w :: r => if k = n then some (.v (.int .i64 n) :: v :: r) else (match mput n v r with | some l => some (.v (.int .i64 k) :: w :: l) | none => none)
  | _ => none
/-- a value of one cell -/
def oneA : AV → Bool
  | .v x => x.oneCell'
  | .os _ _ _ _ | .op _ _ | .mp _ | .fs _ _ _ | .fp _ _ _ => true
  | _ => false
def mlookA (z : Value) (ok : Bool) (a x : AV) : AM :=
  match x with
  | .v (.int .i64 n) => match a with
    | .mp id => .rd id fun | .row _ e cells => if e = MAPE then (match mfind n cells with
      | some none => .ret (if ok then .tup [.v z, .v (.bool false)] else .v z) []
      | some (some v) => .ret (if ok then .tup [v, .v (.bool true)] else v) []
      | none => .fail) else .fail
    | _ => .fail
  | _ => .fail
def mupdA (a x y : AV) : AM :=
  match x with
  | .v (.int .i64 n) => match a with
    | .mp id => .rd id fun | .row yo e cells => if e = MAPE ∧ oneA y = true then (match mput n y cells with
      | some cells' => .ret .any [(id, some (.row yo MAPE cells'))]
      | none => .fail) else .fail
    | _ => .fail
  | _ => .fail
def mlenA (a : AV) : AM :=
  match a with
  | .mp id => .rd id fun | .row _ e cells => if e = MAPE then .ret (.v (.int .i64 (cells.length / 2 : Nat))) [] else .fail
  | _ => .fail
/-- a string's part -/
def ssliceA (a : AV) (lo hi : Option AV) : AM :=
  match a with
  | .v (.string s) => (match lohi s.size lo hi with | some (l, h) => .ret (.v (.string (s.extract l h))) [] | none => .fail)
  | _ => .fail
/-- a string's octets, in memory that nobody else writes -/
def octs (s : ByteArray) : List AV := s.data.toList.map fun b => .v (.int .u8 b.toNat)
def s2bA (a : AV) : AM :=
  match a with
  | .v (.string s) => .ret (.fs true (octs s) s.size) []
  | _ => .fail
/-- is it a struct of such fields? -/
def keyL : List EK → List AV → Bool
  | [], [] => true
  | .i :: ks, .v (.int _ _) :: r => keyL ks r
  | .b :: ks, .v (.bool _) :: r => keyL ks r
  | .s :: ks, .v (.string _) :: r => keyL ks r
  | _, _ => false
/-- what an empty map says of a struct -/
def mlook0A (ks : List EK) (z : Value) (ok : Bool) (a x : AV) : AM :=
  match x with
  | .agg l => match a with
    | .mp id => .rd id fun | .row _ e cells => if (e = MAPE ∧ cells = []) ∧ keyL ks l = true then .ret (if ok then .tup [.v z, .v (.bool false)] else .v z) [] else .fail
    | _ => .fail
  | _ => .fail
def eff (ρ : Operand → AV) (nb : Nat) : AO → AM
  | .mv x => .ret (ρ x) []
  | .pick c a b => pickA (ρ c) (ρ a) (ρ b)
  | .new e z => .ret (.op nb 0) [(nb, some (.row true e (z.map .v)))]
  | .box e x => boxA nb e (ρ x)
  | .build z ps => match fillA ρ (z.map .v) ps with | some l => .ret (.agg l) [] | none => .fail
  | .bslice e sz n z ps => match fillA ρ (z.map .v) ps with | some l => .ret (.os nb 0 n sz) [(nb, some (.row true e l))] | none => .fail
  | .load ag n a => loadA ag n (ρ a)
  | .store n a x => storeA n (ρ a) (ρ x)
  | .foff k a => foffA k (ρ a)
  | .idx sz x i => idxA sz (ρ x) (ρ i)
  | .fld ag off n x => fldA ag off n (ρ x)
  | .bin o x y => binA o (ρ x) (ρ y)
  | .beq neg x y => beqA neg (ρ x) (ρ y)
  | .eqs neg ks x y => eqsA neg ks (ρ x) (ρ y)
  | .isnil neg z x => isnilA neg z (ρ x)
  | .un o x => unA o (ρ x)
  | .conv k x => convA k (ρ x)
  | .len str x => if str then slenA (ρ x) else lenA (ρ x)
  | .append e sz bytes x y => srcA sz (ρ y) (appA nb e sz bytes (ρ x))
  | .call _ _ | .callv _ _ => .fail
  | .ext i x => extA i (ρ x)
  | .slice sz x lo hi => sliceA sz (ρ x) (lo.map ρ) (hi.map ρ)
  | .mksl e sz bytes z n c => mkslA nb e sz bytes z (ρ n) (ρ c)
  | .clo f caps => .ret (.fn f (caps.map ρ)) []
  | .nilc x => nilA (ρ x)
  | .sconv x => sconvA (ρ x)
  | .b2s x => b2sA (ρ x)
  | .mm mx x y => mmA mx (ρ x) (ρ y)
  | .mkif t x => .ret (.ifc t (ρ x)) []
  | .die => .fail
  | .aidx sz n x i => aidxA sz n (ρ x) (ρ i)
  | .cap x => capA (ρ x)
  | .appz e sz bytes z x n => appzA nb e sz bytes z (ρ x) (ρ n)
  | .copy x y => srcA 1 (ρ y) (copyA (ρ x))
  | .slice0 e sz x => slice0A nb e sz (ρ x)
  | .sidx x i => sidxA (ρ x) (ρ i)
  | .mkmap => .ret (.mp nb) [(nb, some (.row true MAPE []))]
  | .mlook z ok m k => mlookA z ok (ρ m) (ρ k)
  | .mupd m k v => mupdA (ρ m) (ρ k) (ρ v)
  | .mlen m => mlenA (ρ m)
  | .sslice x lo hi => ssliceA (ρ x) (lo.map ρ) (hi.map ρ)
  | .s2b x => s2bA (ρ x)
  | .mlook0 ks z ok m k => mlook0A ks z ok (ρ m) (ρ k)

def isNilC : TypeDesc → Operand → Option Value
  | .slice _, .const (.slice none 0 0) => some (.slice none 0 0)
  | .pointer _, .const (.pointer none) => some (.pointer none)
  | .interface _, .const .nilIface => some .nilIface
  | _, _ => none
def placesOf (P : Program) : List Field → Option (List (Nat × Nat))
  | [] => some []
  | f :: r => match P.info? f.type with
    | some i => match placesOf P r with
      | some l => some ((f.offset, i.size) :: l)
      | none => none
    | none => none
def partsOf (l : List (Nat × Nat)) : List (Nat × Operand) → Option (List (Nat × Nat × Operand))
  | [] => some []
  | (i, x) :: r => match l[i]? with
    | some (o, n) => match partsOf l r with
      | some q => some ((o, n, x) :: q)
      | none => none
    | none => none
def compMM (mx : Bool) : List Operand → Option AO
  | [x, y] => some (.mm mx x y)
  | _ => none
def compBi (b : Builtin) (l : List Operand) : Option AO :=
  match b with
  | .min => compMM false l
  | .max => compMM true l
  | _ => none
/-- a struct of numbers and bools alone -/
def fldKinds (P : Program) : List Field → Nat → Option (List EK)
  | [], _ => some []
  | f :: r, k => if f.name ≠ "_" ∧ f.offset = k then (match P.underlying f.type with
    | some (.int _) => (match fldKinds P r (k + 1) with | some l => some (.i :: l) | none => none)
    | some .bool => (match fldKinds P r (k + 1) with | some l => some (.b :: l) | none => none)
    | some .string => (match fldKinds P r (k + 1) with | some l => some (.s :: l) | none => none)
    | _ => none) else none
def compEqs (P : Program) (neg : Bool) (t : TypeId) (x y : Operand) : Option AO :=
  if P.stoodInHeld t = false ∧ P.eqGuardType P.depth t = false then (match P.underlying t with
    | some (.struct fs) => (match fldKinds P fs.toList 0 with | some ks => some (.eqs neg ks x y) | none => none)
    | _ => none) else none
def compEq (P : Program) (op : BinOp) (t : TypeId) (x y : Operand) : Option AO :=
  match op with
  | .eql => compEqs P false t x y
  | .neq => compEqs P true t x y
  | _ => none
/-- What an operation is, its types looked up. -/
def compOp (P : Program) (o : Oper) : Option AO :=
  match o.op with
  | .move x | .assign x => some (.mv x)
  | .pick c a b => some (.pick c a b)
  | .alloc t => match P.info? t with
    | some i => match i.zero with
      | some z => if z.cells.toList.all (·.oneCell') ∧ t ≠ MAPE then some (.new t z.cells.toList) else none
      | none => none
    | none => none
  | .box t x => if t = MAPE then none else some (.box t x)
  | .build t ps => match P.info? t with
    | some i => match i.zero with
      | some z => match P.underlying t with
        | some (.struct fs) => match placesOf P fs.toList with
          | some l => match partsOf l ps.toList with
            | some q => if z.cells.toList.all (·.oneCell') then some (.build z.cells.toList q) else none
            | none => none
          | none => none
        | _ => none
      | none => none
    | none => none
  | .load t a => match P.info? t with
    | some i => match P.underlying t with
      | some d => some (.load d.isRow i.size a)
      | none => none
    | none => none
  | .store t a x => match P.info? t with
    | some i => some (.store i.size a x)
    | none => none
  | .fieldAddr s a k => match P.underlying s with
    | some (.struct fs) => match fs[k]? with
      | some f => match P.info? f.type with
        | some i => if i.size = 0 then none else some (.foff f.offset a)
        | none => none
      | none => none
    | _ => none
  | .field s x k => match P.underlying s with
    | some (.struct fs) => match fs[k]? with
      | some f => match P.info? f.type with
        | some i => match P.underlying f.type with
          | some d => some (.fld d.isRow f.offset i.size x)
          | none => none
        | none => none
      | none => none
    | _ => none
  | .indexAddr t x i => match P.underlying t with
    | some (.slice e) => match P.info? e with
      | some j => some (.idx j.size x i)
      | none => none
    | some (.array n e) => match P.info? e with
      | some j => some (.aidx j.size n x i)
      | none => none
    | _ => none
  | .index t x i => match P.underlying t with
    | some .string => some (.sidx x i)
    | _ => none
  | .makeMap _ r => match r with
    | none => some .mkmap
    | some _ => none
  | .lookup t x k ok => match P.underlying t with
    | some (.map kt et) => match P.underlying kt with
      | some (.int _) => match P.info? et with
        | some i => match i.zero with
          | some z => some (.mlook z ok x k)
          | none => none
        | none => none
      | some (.struct fs) => match fldKinds P fs.toList 0 with
        | some ks => match P.info? et with
          | some i => match i.zero with
            | some z => some (.mlook0 ks z ok x k)
            | none => none
          | none => none
        | none => none
      | _ => none
    | _ => none
  | .mapUpdate t m k v => match P.underlying t with
    | some (.map kt _) => match P.underlying kt with
      | some (.int _) => some (.mupd m k v)
      | some (.struct _) => some .die
      | _ => none
    | _ => none
  | .makeInterface t x => match P.underlying t with
    | some (.interface _) => none
    | some _ => some (.mkif t x)
    | none => none
  | .panic _ => some .die
  | .binOp op t x y _ => match P.underlying t with
    | some (.int _) | some .string => some (.bin op x y)
    | some .bool => match op with
      | .eql => some (.beq false x y)
      | .neq => some (.beq true x y)
      | _ => none
    | some (.struct _) => compEq P op t x y
    | some d => match isNilC d y with
      | some z => match op with
        | .eql => some (.isnil false z x)
        | .neq => some (.isnil true z x)
        | _ => none
      | none => none
    | _ => none
  | .unOp op _ x => some (.un op x)
  | .convert src dst x => match P.underlying src with
    | some (.int _) => match P.underlying dst with
      | some (.int k) => some (.conv k x)
      | _ => none
    | some .string => match P.underlying dst with
      | some (.slice e) => match P.underlying e with
        | some (.int .u8) => some (.s2b x)
        | _ => none
      | _ => none
    | some (.slice e) => match P.underlying e with
      | some (.int .u8) => match P.underlying dst with
        | some .string => some (.b2s x)
        | some (.slice _) => if src = dst then some (.sconv x) else none
        | _ => none
      | _ => none
    | _ => none
  | .extract x i => some (.ext i x)
  | .makeFunc (.func f) first caps => if first.size = 0 then some (.clo f caps.toList) else none
  | .nilCheck x => some (.nilc x)
  | .slice t x lo hi mx => match mx with
    | none => match P.underlying t with
      | some (.slice e) => match P.info? e with
        | some j => some (.slice j.size x lo hi)
        | none => none
      | some .string => some (.sslice x lo hi)
      | _ => none
    | some mx => match lo, hi, mx with
      | none, some (.const (.int .i64 0)), .const (.int .i64 0) => match P.underlying t with
        | some (.slice e) => match P.info? e with
          | some j => if e = MAPE then none else some (.slice0 e j.size x)
          | none => none
        | _ => none
      | _, _, _ => none
  | .makeSlice t n c => match P.underlying t with
    | some (.slice e) => match P.info? e with
      | some j => match j.zero with
        | some z => if z.cells.size = j.size ∧ z.cells.toList.all (·.oneCell') ∧ e ≠ MAPE then some (.mksl e j.size j.bytes z.cells.toList n c) else none
        | none => none
      | none => none
    | _ => none
  | .buildSlice t n ps => match P.underlying t with
    | some (.slice e) => match P.info? e with
      | some j => match j.zero with
        | some z => if z.cells.size = j.size ∧ 0 < j.size ∧ z.cells.toList.all (·.oneCell') ∧ n * j.size ≤ 16777216 ∧ e ≠ MAPE then
            some (.bslice e j.size n (madeCells z.cells (n * j.size)).toList (ps.toList.map fun (i, x) => (i * j.size, j.size, x))) else none
        | none => none
      | none => none
    | _ => none
  | .call c => match c.callee with
    | .value (.func f) => some (.call f c.args.toList)
    | .value g => some (.callv g c.args.toList)
    | .builtin .len => match c.argTypes.toList, c.args.toList with
      | [t], [x] => match P.underlying t with
        | some (.slice _) => some (.len false x)
        | some .string => some (.len true x)
        | some (.map _ _) => some (.mlen x)
        | _ => none
      | _, _ => none
    | .builtin .append => match c.argTypes.toList, c.args.toList with
      | [t, u], [x, y] => match P.underlying t with
        | some (.slice e) => match P.underlying u with
          | some (.slice _) => match P.info? e with
            | some j => match j.zero with
              | some z => if (z.cells.size = j.size ∧ 0 < j.bytes) ∧ e ≠ MAPE then some (.append e j.size j.bytes x y) else none
              | none => none
            | none => none
          | some (.int .i64) => match P.info? e with
            | some j => match j.zero with
              | some z => if ((z.cells.size = j.size ∧ 0 < j.bytes) ∧ 0 < j.size ∧ z.cells.toList.all (·.oneCell')) ∧ e ≠ MAPE then some (.appz e j.size j.bytes z.cells.toList x y) else none
              | none => none
            | none => none
          | _ => none
        | _ => none
      | _, _ => none
    | .builtin .cap => match c.argTypes.toList, c.args.toList with
      | [t], [x] => match P.underlying t with
        | some (.slice _) => some (.cap x)
        | _ => none
      | _, _ => none
    | .builtin .copy => match c.argTypes.toList, c.args.toList with
      | [t, u], [x, y] => match P.underlying t with
        | some (.slice e) => match P.underlying u with
          | some (.slice _) => match P.info? e with
            | some j => if j.size = 1 then some (.copy x y) else some .die
            | none => none
          | _ => none
        | _ => none
      | _, _ => none
    | .builtin .clear => some .die
    | .builtin b => compBi b c.args.toList
    | _ => none
  | _ => none
end Go.Proofs.YtonglhkiobibgaaGreatDoor
namespace Go.Proofs.YtonglhkiobibgaaGreatDoor
open Go.RowKit
variable {P : Program} {c : Cx} {nb : Nat}

theorem run_isAgg {t : TypeId} {d : TypeDesc} (hu : P.underlying t = some d) (w : World) : (isAgg t).run P w = .ok d.isRow w := by
  unfold isAgg
  rw [Sem.run_bind, run_underlying hu w]
  cases d <;> simp

/-- what a held row's cells say of memory -/
theorem HR.cells (h : HR c) {id b : Nat} {y : Bool} {e : TypeId} {cells : List AV} (hs : c.σ id = some (.row y e cells)) (hφ : c.φ id = some (some b)) (hv : ∃ vs e' f, c.w.heap[b]? = some (Obj.cells vs e' f)) :
    ∃ cs, c.w.heap[b]? = some (.cells cs e (0, 0)) ∧ cells.length ≤ cs.size ∧ (∀ (j : Nat) a, cells[j]? = some a → ∃ u, cs[j]? = some u ∧ u.oneCell' = true ∧ VR c a u) ∧
      ∀ (j : Nat) a, cells[j]? = some a → ∃ u, c.w.cell? ⟨b, 0 + j, none⟩ = some u ∧ u.oneCell' = true ∧ VR c a u := by
  rcases h.row id y e cells hs with ⟨h1, _⟩ | ⟨b', cs, h1, h2, h3, h4, h5⟩
  · rw [hφ] at h1; cases h1
  · rw [hφ] at h1; cases h1
    replace h2 := h2.cells hv
    refine ⟨cs, h2, h4, h5, fun j a hj => ?_⟩
    obtain ⟨u, h6, h7, h8⟩ := h5 j a hj
    exact ⟨u, by rw [Nat.zero_add]; simp [World.cell?, h2, h6], h7, h8⟩

/-- cells of a list that are read: the values that lie there -/
theorem range_of {b off0 off n : Nat} {cells l : List AV} (hm : ∀ (j : Nat) a, cells[j]? = some a → ∃ u, c.w.cell? ⟨b, off0 + j, none⟩ = some u ∧ u.oneCell' = true ∧ VR c a u) (hl : getN cells off n = some l) :
    ∃ us : List Value, us.length = n ∧ c.w.rangeAt b (off0 + off) us ∧ VRl c l us := by
  obtain ⟨h1, h2⟩ := getN_spec hl
  have key : ∀ (l : List AV) (off : Nat), (∀ (j : Nat) a, l[j]? = some a → cells[off + j]? = some a) → ∃ us : List Value, us.length = l.length ∧ c.w.rangeAt b (off0 + off) us ∧ VRl c l us := by
    intro l
    induction l with
    | nil => intro off _; exact ⟨[], rfl, fun j v hj => by simp at hj, rfl⟩
    | cons a r ih =>
      intro off hh
      obtain ⟨us, e1, e2, e3⟩ := ih (off + 1) (fun j a' hj => by have := hh (j + 1) a' (by simpa using hj); rwa [Nat.add_assoc, Nat.add_comm 1 j])
      obtain ⟨u, e4, e5, e6⟩ := hm _ _ (hh 0 a rfl)
      refine ⟨u :: us, by simp [e1], fun j v hj => ?_, u, us, rfl, e5, e6, e3⟩
      cases j with
      | zero => simp at hj; subst hj; exact e4
      | succ j => simp at hj; have := e2 j v hj; rwa [show off0 + (off + 1) + j = off0 + off + (j + 1) from by omega] at this
  obtain ⟨us, e1, e2, e3⟩ := key l off h2
  exact ⟨us, e1.trans h1, e2, e3⟩

theorem run_loadVar_one {t : TypeId} {d : TypeDesc} (hu : P.underlying t = some d) (hd : d.isRow = false) {a : Addr} {u : Value} {w : World} (h : w.cell? a = some u) : (loadVar t a).run P w = .ok u w := by
  simp [loadVar, run_isAgg hu, hd, h]
theorem run_loadVar_all {t : TypeId} {d : TypeDesc} {i : TypeInfo} (hu : P.underlying t = some d) (hd : d.isRow = true) (hi : P.info? t = some i) {b o : Nat} {us : List Value} {w : World} (h : w.rangeAt b o us) (hl : us.length = i.size) :
    (loadVar t ⟨b, o, none⟩).run P w = .ok (.agg us.toArray) w := run_loadVar_mid w b o t us d h hu hd (by rw [hi]; simp [hl])

theorem g_ldA {t : TypeId} {d : TypeDesc} {i : TypeInfo} (hu : P.underlying t = some d) (hi : P.info? t = some i) {b off0 off : Nat} {cells : List AV}
    (hm : ∀ (j : Nat) a, cells[j]? = some a → ∃ u, c.w.cell? ⟨b, off0 + j, none⟩ = some u ∧ u.oneCell' = true ∧ VR c a u) : Gives P (loadVar t ⟨b, off0 + off, none⟩) c (ldA d.isRow i.size cells off) nb := by
  unfold ldA
  cases hd : d.isRow with
  | true =>
    rw [if_pos rfl]
    split
    · rename_i l hl
      obtain ⟨us, e1, e2, e3⟩ := range_of hm hl
      exact Gives.pure (run_loadVar_all hu hd hi e2 e1) ⟨us, rfl, e3⟩
    · intro r R W h; cases h
  | false =>
    rw [if_neg (by decide)]
    split
    · rename_i x hx
      obtain ⟨u, e1, e2, e3⟩ := hm _ _ hx
      exact Gives.pure (run_loadVar_one hu hd e1) e3
    · intro r R W h; cases h
theorem Gives.fail {s : Sem Value} : Gives P s c .fail nb := fun _ _ _ h => by cases h
/-- to look at a row -/
theorem Gives.look {s : Sem Value} {id : Nat} {k : AObj → AM} (h : HR c → ∀ o, c.σ id = some o → Gives P s c (k o) nb) : Gives P s c (.rd id k) nb := by
  intro r R W hr hh hn
  rw [AM.run] at hr
  split at hr
  · rename_i o ho
    split at hr
    · rename_i r' R' W' hk
      simp at hr
      obtain ⟨rfl, rfl, rfl⟩ := hr
      exact h hh o ho _ _ _ hk hh hn
    · cases hr
  · cases hr
theorem g_load {t : TypeId} {d : TypeDesc} {i : TypeInfo} (hu : P.underlying t = some d) (hi : P.info? t = some i) {a : AV} {u : Value} (h : VR c a u) :
    Gives P (Instr.loadAt t u) c (loadA d.isRow i.size a) nb := by
  cases a with
  | op id off =>
    obtain ⟨b, hφ, rfl, hcl⟩ := h
    refine Gives.look fun hr o ho => ?_
    obtain ⟨y, e, cells⟩ := o
    obtain ⟨cs, _, _, _, hm⟩ := hr.cells ho hφ hcl
    have := g_ldA (P := P) (c := c) (nb := nb) hu hi (off := off) hm
    rw [Nat.zero_add] at this
    simpa [Instr.loadAt, Instr.sureAddr] using this
  | fp fr cells off =>
    obtain ⟨b, o0, rfl, _, _, hm⟩ := h
    rw [VRm_iff] at hm
    exact g_ldA (P := P) (c := c) (nb := nb) hu hi (off := off) hm
  | wp k =>
    obtain ⟨b, off, rfl, hX, hT, hY, hk, sz, ⟨cs, e, hb, hsz, hcs⟩, hle⟩ := h
    simp only [loadA]
    split
    · rename_i hrow
      have hlt : off < cs.size := by omega
      have hc : c.w.cell? ⟨b, off, none⟩ = some cs[off] := by simp [World.cell?, hb, hlt]
      exact Gives.pure (run_loadVar_one hu hrow hc) (hcs off _ (by omega) (by simp [hlt]))
    · exact Gives.fail
  | _ => exact Gives.fail

theorem g_new {t : TypeId} (hne : t ≠ MAPE) {i : TypeInfo} {z : Value} (hi : P.info? t = some i) (hz : i.zero = some z) (h1 : z.cells.toList.all (·.oneCell') = true) :
    Gives P (Instr.alloc t true (.tuple #[])) c (.ret (.op nb 0) [(nb, some (.row true t (z.cells.toList.map .v)))]) nb := by
  intro r R W h hr hn
  simp [AM.run] at h
  obtain ⟨rfl, rfl, rfl⟩ := h
  have T := Then.alloc hr ((hn nb (Nat.le_refl _)).resolve_right (by omega)) z.cells t hne (z.cells.toList.map .v) (by simp) (fun j a hj => by
    rw [List.getElem?_map, Option.map_eq_some_iff] at hj
    obtain ⟨x, hx, rfl⟩ := hj
    exact ⟨x, by simpa using hx, List.all_eq_true.1 h1 x (List.mem_of_getElem? hx), rfl⟩) true
  refine ⟨.pointer (some ⟨c.w.heap.size, 0, none⟩), _, ?_, ⟨c.w.heap.size, by simp [Cx.put], rfl, _, _, _, heap_new _ _⟩, T⟩
  simp [Instr.alloc, zeroValue, typeInfo, hi, hz, newVar, newRow, Cx.put, World.alloc_eq]
theorem g_box {t : TypeId} (hne : t ≠ MAPE) {a : AV} {u : Value} (h : VR c a u) :
    Gives P (Instr.box t u) c (boxA nb t a) nb := by
  unfold boxA
  split
  · rename_i l hl
    intro r R W h' hr hn
    simp [AM.run] at h'
    obtain ⟨rfl, rfl, rfl⟩ := h'
    have hc := VRl_iff.1 (VR_cellsOf h hl)
    have T := Then.alloc hr ((hn nb (Nat.le_refl _)).resolve_right (by omega)) u.cells t hne l (by have := hc.1; simp at this; omega) (fun j a hj => by simpa using hc.2 j a hj) true
    refine ⟨.pointer (some ⟨c.w.heap.size, 0, none⟩), _, ?_, ⟨c.w.heap.size, by simp [Cx.put], rfl, _, _, _, heap_new _ _⟩, T⟩
    simp [Instr.box, newVar, newRow, Cx.put, World.alloc_eq]
  · exact Gives.fail

theorem g_store {t : TypeId} {i : TypeInfo} (hi : P.info? t = some i) {a x : AV} {u v : Value} (h : VR c a u) (hx : VR c x v) :
    Gives P (do Instr.storeAt t u v; pure undef) c (storeA i.size a x) nb := by
  cases a with
  | op id off =>
    obtain ⟨b, hφ, rfl, hcl⟩ := h
    simp only [storeA]
    split
    · rename_i l hl
      refine Gives.look fun hr o ho => ?_
      obtain ⟨y, e, cells⟩ := o
      simp only
      split
      · rename_i hh
        intro r R W h' _ hn
        simp [AM.run] at h'
        obtain ⟨rfl, rfl, rfl⟩ := h'
        obtain ⟨cs, hb, hle, hcs, hm⟩ := hr.cells ho hφ hcl
        have hc := VRl_iff.1 (VR_cellsOf hx hl)
        have T := Then.store hr nb ho hφ hb off v.cells.toList (cells' := setN cells off l) (by have := hc.1; omega) (by rw [setN_length]; exact hle) (fun j a hj => by
          rw [setN_get _ (by omega)] at hj
          rw [setA_get _ _ _ _ (by have := hc.1; omega), hc.1]
          split at hj
          · rename_i hin
            rw [if_pos hin]
            exact hc.2 _ _ hj
          · rename_i hin
            rw [if_neg hin]
            exact hcs _ _ hj)
        refine ⟨undef, _, ?_, trivial, T⟩
        have ht : c.w.there b off v.cells.size := fun j hj => by
          have hj' : off + j < cells.length := by have := hc.1; simp at this; omega
          obtain ⟨u, e1, _⟩ := hm (off + j) _ (List.getElem?_eq_getElem hj')
          rw [Nat.zero_add] at e1
          exact ⟨by rw [e1]; rfl, by simp [World.frozen?, hb]⟩
        have h1 : v.cells.all (·.oneCell') = true := by
          rw [Array.all_eq_true_iff_forall_mem]
          intro q hq
          obtain ⟨j, hj, rfl⟩ := Array.mem_iff_getElem.1 hq
          have hj' : j < l.length := by have := hc.1; simp at this; omega
          obtain ⟨u, e1, e2, _⟩ := hc.2 j _ (List.getElem?_eq_getElem hj')
          have : v.cells[j]? = some u := by simpa using e1
          rw [Array.getElem?_eq_getElem hj] at this
          simp at this
          rw [this]; exact e2
        have hsz : (P.info? t).map (·.size) = some v.cells.size := by rw [hi]; have := hc.1; simp at this; simp; omega
        have hrun := run_storeVar_mid (P := P) c.w b off t v.cells ht hsz h1
        have hsame : storeVar t ⟨b, off, none⟩ v = storeVar t ⟨b, off, none⟩ (.agg v.cells) := rfl
        simp [Instr.storeAt, Instr.sureAddr, hsame, hrun]
      · exact Gives.fail
    · exact Gives.fail
  | wp k =>
    cases x with
    | wv k' =>
      simp only [storeA]
      split
      · rename_i hh
        obtain ⟨rfl, hn1⟩ := hh
        intro r R W h' hr hn
        simp [AM.run] at h'
        obtain ⟨rfl, rfl, rfl⟩ := h'
        obtain ⟨b, off, rfl, hw⟩ := h
        have T := Then.wild hr nb hw (x := v) hx
        obtain ⟨hX, hT, hY, hk, sz, ⟨cs, e, hb, hsz, hcs⟩, hle⟩ := hw
        refine ⟨undef, _, ?_, trivial, T⟩
        have h1 : v.oneCell' = true := by rcases hk with rfl | rfl <;> (obtain ⟨q, rfl⟩ := hx; rfl)
        have hcv : v.cells = #[v] := by rcases hk with rfl | rfl <;> (obtain ⟨q, rfl⟩ := hx; rfl)
        have hlt : off < cs.size := by omega
        have ht : c.w.there b off v.cells.size := fun j hj => by
          rw [hcv] at hj
          have : j = 0 := by simp at hj; exact hj
          subst this
          exact ⟨by simp [World.cell?, hb, hlt], by simp [World.frozen?, hb]⟩
        have hsz : (P.info? t).map (·.size) = some v.cells.size := by rw [hi, hcv]; simp [hn1]
        have hrun := run_storeVar_mid (P := P) c.w b off t v.cells ht hsz (by rw [hcv]; simp [h1])
        have hsame : storeVar t ⟨b, off, none⟩ v = storeVar t ⟨b, off, none⟩ (.agg v.cells) := by rw [hcv]; rcases hk with rfl | rfl <;> (obtain ⟨q, rfl⟩ := hx; rfl)
        rw [hcv] at hsame hrun
        simp [Instr.storeAt, Instr.sureAddr, hsame, hrun]
      · exact Gives.fail
    | _ => exact Gives.fail
  | _ => exact Gives.fail
end Go.Proofs.YtonglhkiobibgaaGreatDoor
namespace Go.Proofs.YtonglhkiobibgaaGreatDoor
open Go.RowKit
variable {P : Program} {c : Cx} {nb : Nat}

theorem fold_setA : ∀ (us : List Value) (cs : Array Value) (o k : Nat), (us.zipIdx k).foldl (fun cs (x : Value × Nat) => cs.setIfInBounds (o + x.2) x.1) cs = setA cs (o + k) us
  | [], _, _, _ => rfl
  | u :: us, cs, o, k => by
    rw [List.zipIdx_cons, List.foldl_cons, setA, fold_setA us _ o (k + 1)]
    rw [Nat.add_assoc]
theorem VRl_set {l q : List AV} {cs : Array Value} {us : List Value} {o : Nat} (h : VRl c l cs.toList) (hq : VRl c q us) (ho : o + q.length ≤ l.length) : VRl c (setN l o q) (setA cs o us).toList := by
  rw [VRl_iff] at *
  have hl : l.length = cs.size := by simpa using h.1.symm
  refine ⟨by rw [setN_length, Array.length_toList, setA_size, hl], fun j a hj => ?_⟩
  rw [setN_get _ ho] at hj
  rw [Array.getElem?_toList, setA_get _ _ _ _ (by omega), hq.1]
  split at hj
  · rename_i hin; rw [if_pos hin]; exact hq.2 _ _ hj
  · rename_i hin; rw [if_neg hin]; have := h.2 j a hj; simpa using this
theorem fill_ok (ρ : Operand → AV) (ev : Operand → Value) (hv : ∀ x, VR c (ρ x) (ev x)) (place : Nat → Option (Nat × Nat)) :
    ∀ (ps : List (Nat × Operand)) (q : List (Nat × Nat × Operand)) (l l' : List AV) (cs : Array Value), (∀ j : Nat, (ps[j]?).isSome = (q[j]?).isSome) → (∀ (j : Nat) i x o n y, ps[j]? = some (i, x) → q[j]? = some (o, n, y) → place i = some (o, n) ∧ x = y) →
      VRl c l cs.toList → fillA ρ l q = some l' → ∃ cs', Instr.fill place cs (ps.map fun (i, x) => (i, ev x)) = some cs' ∧ VRl c l' cs'.toList
  | [], q, l, l', cs, hs, _, h, hf => by
    cases q with
    | nil => simp [fillA] at hf; subst hf; exact ⟨cs, rfl, h⟩
    | cons a q => have := hs 0; simp at this
  | (i, x) :: ps, q, l, l', cs, hs, hp, h, hf => by
    cases q with
    | nil => have := hs 0; simp at this
    | cons a q =>
      obtain ⟨o, n, y⟩ := a
      obtain ⟨hpl, rfl⟩ := hp 0 i x o n y rfl rfl
      rw [fillA] at hf
      split at hf
      · rename_i cs0 hc0
        split at hf
        · rename_i hh
          have hc := VR_cellsOf (hv x) hc0
          have hcl := (VRl_iff.1 hc).1
          have hll := (VRl_iff.1 h).1
          simp at hcl hll
          obtain ⟨cs', e1, e2⟩ := fill_ok ρ ev hv place ps q _ l' _ (fun j => by have := hs (j + 1); simpa using this) (fun j i x o n y h1 h2 => hp (j + 1) i x o n y (by simpa using h1) (by simpa using h2)) (VRl_set h hc (by omega)) hf
          refine ⟨cs', ?_, e2⟩
          have hfold : (ev x).cells.zipIdx.foldl (fun cs (x : Value × Nat) => cs.setIfInBounds (o + x.2) x.1) cs = setA cs o (ev x).cells.toList := by
            have := fold_setA (ev x).cells.toList cs o 0
            rw [Nat.add_zero] at this
            rw [← this, ← Array.foldl_toList, Array.toList_zipIdx]
          rw [List.map_cons, Instr.fill]
          simp only [hpl]
          rw [if_neg (by simp; omega)]
          exact (congrArg (fun z => Instr.fill place z (ps.map fun (i, x) => (i, ev x))) hfold).trans e1
        · cases hf
      · cases hf

theorem placesOf_spec : ∀ {fs : List Field} {l : List (Nat × Nat)} {w : World}, placesOf P fs = some l → (fs.mapM fun f => do pure (f.offset, ← sizeOf f.type) : Sem (List (Nat × Nat))).run P w = .ok l w
  | [], l, w, h => by simp [placesOf] at h; subst h; rfl
  | f :: fs, l, w, h => by
    rw [placesOf] at h
    split at h
    · rename_i i hi
      split at h
      · rename_i l' hl
        simp at h
        subst h
        have := placesOf_spec (w := w) hl
        have e : (sizeOf f.type).run P w = .ok i.size w := by simp [sizeOf, typeInfo, hi]
        rw [List.mapM_cons, Sem.run_bind, Sem.run_bind, e]
        simp only [Result.andThen_ok, Sem.run_pure, Sem.run_bind]
        rw [this]
        rfl
      · cases h
    · cases h
theorem partsOf_spec : ∀ {l : List (Nat × Nat)} {ps : List (Nat × Operand)} {q : List (Nat × Nat × Operand)}, partsOf l ps = some q → (∀ j : Nat, (ps[j]?).isSome = (q[j]?).isSome) ∧
    ∀ (j : Nat) i x o n y, ps[j]? = some (i, x) → q[j]? = some (o, n, y) → l[i]? = some (o, n) ∧ x = y
  | l, [], q, h => by simp [partsOf] at h; subst h; simp
  | l, (i, x) :: ps, q, h => by
    rw [partsOf] at h
    split at h
    · rename_i o n ho
      split at h
      · rename_i q' hq
        simp at h
        subst h
        obtain ⟨h1, h2⟩ := partsOf_spec hq
        refine ⟨fun j => ?_, fun j i' x' o' n' y' e1 e2 => ?_⟩
        · cases j with
          | zero => rfl
          | succ j => simpa using h1 j
        · cases j with
          | zero => simp at e1 e2; obtain ⟨rfl, rfl⟩ := e1; obtain ⟨rfl, rfl, rfl⟩ := e2; exact ⟨ho, rfl⟩
          | succ j => exact h2 j i' x' o' n' y' (by simpa using e1) (by simpa using e2)
      · cases h
    · cases h
theorem VRl_vals {us : List Value} (h : us.all (·.oneCell') = true) : VRl c (us.map .v) us := by
  rw [VRl_iff]
  refine ⟨by simp, fun j a hj => ?_⟩
  rw [List.getElem?_map, Option.map_eq_some_iff] at hj
  obtain ⟨x, hx, rfl⟩ := hj
  exact ⟨x, hx, List.all_eq_true.1 h x (List.mem_of_getElem? hx), rfl⟩
theorem g_build {t : TypeId} {i : TypeInfo} {z : Value} {fs : Array Field} {l : List (Nat × Nat)} {ps : Array (Nat × Operand)} {q : List (Nat × Nat × Operand)} (hi : P.info? t = some i) (hz : i.zero = some z) (hu : P.underlying t = some (.struct fs))
    (hl : placesOf P fs.toList = some l) (hq : partsOf l ps.toList = some q) (h1 : z.cells.toList.all (·.oneCell') = true) (ρ : Operand → AV) (ev : Operand → Value) (hv : ∀ x, VR c (ρ x) (ev x)) :
    Gives P (Instr.build t (ps.map fun (i, x) => (i, ev x))) c (match fillA ρ (z.cells.toList.map .v) q with | some l => .ret (.agg l) [] | none => .fail) nb := by
  split
  · rename_i l' hf
    obtain ⟨s1, s2⟩ := partsOf_spec hq
    obtain ⟨cs', e1, e2⟩ := fill_ok ρ ev hv (fun k => l.toArray[k]?) ps.toList q _ l' z.cells s1 (fun j i x o n y a b => by have := s2 j i x o n y a b; simpa using this) (VRl_vals h1) hf
    refine Gives.pure ?_ ⟨cs'.toList, rfl, e2⟩
    have hm : (fs.mapM fun f => do pure (f.offset, ← sizeOf f.type) : Sem (Array (Nat × Nat))).run P c.w = .ok l.toArray c.w := by
      rw [Array.mapM_eq_mapM_toList]
      have := placesOf_spec (w := c.w) hl
      rw [Sem.run_map, this]; rfl
    have e1' : Instr.fill (fun k => l.toArray[k]?) z.cells (ps.map fun (i, x) => (i, ev x)).toList = some cs' := by rw [Array.toList_map]; exact e1
    simp only [Instr.build, zeroValue, typeInfo, Sem.run_bind, run_program, Result.andThen_ok, hi, Sem.run_pure, hz, run_underlying hu, hm]
    rw [e1']
    simp
  · exact Gives.fail
theorem g_bslice {t e : TypeId} (hne : e ≠ MAPE) {n : Nat} {j : TypeInfo} {z : Value} {ps : Array (Nat × Operand)} (hu : P.underlying t = some (.slice e)) (hj : P.info? e = some j) (hz : j.zero = some z)
    (hc : z.cells.size = j.size ∧ 0 < j.size ∧ z.cells.toList.all (·.oneCell') = true ∧ n * j.size ≤ 16777216) (ρ : Operand → AV) (ev : Operand → Value) (hv : ∀ x, VR c (ρ x) (ev x)) :
    Gives P (Instr.buildSlice t n (ps.map fun (i, x) => (i, ev x))) c (match fillA ρ ((madeCells z.cells (n * j.size)).toList.map .v) (ps.toList.map fun (i, x) => (i * j.size, j.size, x)) with | some l => .ret (.os nb 0 n j.size) [(nb, some (.row true e l))] | none => .fail) nb := by
  split
  · rename_i l' hf
    intro r R W h' hr hn
    simp [AM.run] at h'
    obtain ⟨rfl, rfl, rfl⟩ := h'
    have hone : (madeCells z.cells (n * j.size)).toList.all (·.oneCell') = true := by
      rw [List.all_eq_true]
      intro x hx
      simp [madeCells] at hx
      obtain ⟨k, hk, rfl⟩ := hx
      have hlt : k % z.cells.size < z.cells.size := Nat.mod_lt _ (by omega)
      rw [List.all_eq_true] at hc
      exact hc.2.2.1 _ (by rw [getElem!_pos z.cells (k % z.cells.size) hlt]; simp)
    obtain ⟨cs', e1, e2⟩ := fill_ok ρ ev hv (fun i => some (i * j.size, j.size)) ps.toList _ _ l' (madeCells z.cells (n * j.size)) (fun k => by simp) (fun k i x o m y a b => by
      rw [List.getElem?_map, a] at b
      simp at b
      exact ⟨by rw [b.1, b.2.1], b.2.2⟩) (VRl_vals hone) hf
    have hl := (VRl_iff.1 e2).1
    have hfl : l'.length = n * j.size := by
      have key : ∀ (q : List (Nat × Nat × Operand)) (l l' : List AV), fillA ρ l q = some l' → l'.length = l.length := by
        intro q
        induction q with
        | nil => intro l l' h; simp [fillA] at h; rw [h]
        | cons a q ih =>
          intro l l' h
          rw [fillA] at h
          split at h
          · split at h
            · rw [ih _ _ h, setN_length]
            · cases h
          · cases h
      rw [key _ _ _ hf]; simp [size_madeCells]
    have T := Then.alloc hr ((hn nb (Nat.le_refl _)).resolve_right (by omega)) cs' e hne l' (by simp at hl; omega) (fun k a hk => by simpa using (VRl_iff.1 e2).2 k a hk) true
    refine ⟨.slice (some ⟨c.w.heap.size, 0, none⟩) n n, _, ?_, ⟨_, _, rfl, Nat.le_refl _, .inr ⟨c.w.heap.size, by simp [Cx.put], rfl, cs', e, (0, 0), heap_new _ _, by simp at hl; omega⟩⟩, T⟩
    have e1' : Instr.fill (fun i => some (i * j.size, j.size)) (madeCells z.cells (n * j.size)) (ps.map fun (i, x) => (i, ev x)).toList = some cs' := by rw [Array.toList_map]; exact e1
    by_cases hn0 : n = 0
    · have hm0 : madeCells z.cells (n * j.size) = (Array.range (n * j.size)).map ((#[] : Array Value)[· % (#[] : Array Value).size]!) := by subst hn0; simp [madeCells]
      rw [hm0] at e1'
      have hz0 : n * j.size = 0 := by rw [hn0, Nat.zero_mul]
      rw [hz0] at e1'
      simp only [Instr.buildSlice, Sem.run_bind, run_underlying hu, Result.andThen_ok, sizeOf, typeInfo, run_program, hj, Sem.run_pure, hz0, if_neg (show ¬ 0 > 2 ^ 24 by decide), if_true]
      rw [e1']
      simp [newRow, Cx.put, World.alloc_eq]
    · have hz0 : ¬ n * j.size = 0 := by rw [Nat.mul_eq_zero]; omega
      have hbig : ¬ n * j.size > 2 ^ 24 := by omega
      simp only [madeCells] at e1'
      simp only [Instr.buildSlice, Sem.run_bind, run_underlying hu, Result.andThen_ok, sizeOf, typeInfo, run_program, hj, Sem.run_pure, if_neg hz0, if_neg hbig, zeroValue, hz, e1']
      simp [newRow, Cx.put, World.alloc_eq]
  · exact Gives.fail
end Go.Proofs.YtonglhkiobibgaaGreatDoor
namespace Go.Proofs.YtonglhkiobibgaaGreatDoor
open Go.RowKit
variable {P : Program} {c : Cx} {nb : Nat}

theorem range_list {b : Nat} : ∀ {l : List AV} {off : Nat}, (∀ (j : Nat) a, l[j]? = some a → ∃ u, c.w.cell? ⟨b, off + j, none⟩ = some u ∧ u.oneCell' = true ∧ VR c a u) →
    ∃ us : List Value, us.length = l.length ∧ c.w.rangeAt b off us ∧ VRl c l us
  | [], off, _ => ⟨[], rfl, fun j v hj => by simp at hj, rfl⟩
  | a :: r, off, hh => by
    obtain ⟨us, e1, e2, e3⟩ := range_list (l := r) (off := off + 1) (fun j a' hj => by have := hh (j + 1) a' (by simpa using hj); rwa [Nat.add_assoc, Nat.add_comm 1 j])
    obtain ⟨u, e4, e5, e6⟩ := hh 0 a rfl
    refine ⟨u :: us, by simp [e1], fun j v hj => ?_, u, us, rfl, e5, e6, e3⟩
    cases j with
    | zero => simp at hj; subst hj; exact e4
    | succ j => simp at hj; have := e2 j v hj; rwa [show off + 1 + j = off + (j + 1) from by omega] at this
theorem VRl_one {l : List AV} {us : List Value} (h : VRl c l us) : ∀ u ∈ us, u.oneCell' = true := by
  intro u hu
  obtain ⟨j, hj, rfl⟩ := List.mem_iff_getElem.1 hu
  obtain ⟨h1, h2⟩ := VRl_iff.1 h
  obtain ⟨v, e1, e2, _⟩ := h2 j _ (List.getElem?_eq_getElem (by omega))
  rw [List.getElem?_eq_getElem hj] at e1
  cases e1
  exact e2

theorem src_zero {sz : Nat} {tx e' : TypeId} (hk : P.underlying tx = some (.slice e')) (A : Option Addr) (k : Nat) (w : World) : Src P sz tx (.slice A 0 k) 0 [] w :=
  ⟨.inl ⟨e', hk⟩, fun _ => rfl, by cases A <;> simp [Builtin.firstCells, loadCells, loadCellsFrom], by cases A <;> simp [Builtin.firstCells, loadCells, loadCellsFrom], by simp, fun _ h => by cases h⟩
theorem g_src {sz : Nat} {tx e' : TypeId} (hk : P.underlying tx = some (.slice e')) {b : AV} {v : Value} (h : VR c b v) {s : Sem Value} {k : Nat → List AV → AM}
    (hs : HR c → ∀ m l news, Src P sz tx v m news c.w → VRl c l news → Gives P s c (k m l) nb) : Gives P s c (srcA sz b k) nb := by
  cases b with
  | v x =>
    have e : v = x := h
    subst e
    unfold srcA
    split
    · rename_i h0; cases h0
    · rename_i h0; cases h0
    · rename_i k' h0
      cases h0
      intro r R W hr hh hn
      exact hs hh 0 [] [] (src_zero hk _ _ _) rfl r R W hr hh hn
    · exact Gives.fail
  | fs fr cs m =>
    unfold srcA
    simp only
    split
    · rename_i hl
      obtain ⟨A, k', rfl, hk', hm⟩ := h
      intro r R W hr hh hn
      by_cases h0 : m = 0
      · subst h0
        have : cs = [] := List.eq_nil_of_length_eq_zero (by simpa using hl)
        subst this
        exact hs hh 0 [] [] (src_zero hk _ _ _) rfl r R W hr hh hn
      · obtain ⟨b, off, rfl, _, _, hm⟩ := hm h0
        obtain ⟨us, e1, e2, e3⟩ := range_list (VRm_iff.1 hm)
        exact hs hh m cs us (Src.ofSlice c.w hk ⟨b, off, none⟩ m k' us (by omega) (fun j u hu => by rw [Addr.add_mid]; exact e2 j u hu) (VRl_one e3)) e3 r R W hr hh hn
    · exact Gives.fail
  | os id off m sz' =>
    obtain ⟨A, k', rfl, hk', hm⟩ := h
    refine Gives.look fun hr o ho => ?_
    obtain ⟨y, e, cells⟩ := o
    simp only
    split
    · rename_i hl
      obtain ⟨rfl, hl⟩ := hl
      by_cases h0 : m = 0
      · subst h0
        have : (cells.drop off).take (0 * sz') = [] := by simp
        rw [this]
        exact hs hr 0 [] [] (src_zero hk _ _ _) rfl
      · rcases hm with ⟨_, h1⟩ | ⟨b, hφ, rfl, cs9, e9, f9, h9, _⟩
        · omega
        · obtain ⟨cs, _, _, _, hm⟩ := hr.cells ho hφ ⟨_, _, _, h9⟩
          obtain ⟨us, e1, e2, e3⟩ := range_list (c := c) (b := b) (off := off) (l := (cells.drop off).take (m * sz')) (fun j a hj => by
            rw [List.getElem?_take] at hj
            split at hj
            · rw [List.getElem?_drop] at hj
              have := hm _ _ hj
              rwa [Nat.zero_add] at this
            · cases hj)
          exact hs hr m _ us (Src.ofSlice c.w hk ⟨b, off, none⟩ m k' us (by omega) (fun j u hu => by rw [Addr.add_mid]; exact e2 j u hu) (VRl_one e3)) e3
    · exact Gives.fail
  | _ => exact Gives.fail

theorem grownCap_ge (w : World) (need old : Nat) (e : TypeId) : need ≤ grownCap w need old e := by
  unfold grownCap
  simp only [Question.cut]
  omega
theorem zeroCells_size (z : Array Value) (n : Nat) : (Builtin.zeroCells z n).size = n * z.size := by simp [Builtin.zeroCells]
theorem mkG {s : Sem Value} {r : AV} {v : Value} {W : List (Nat × Option AObj)} {d : Cx} (T : Then c nb W d) (hv : VR d r v) (hs : s.run P c.w = .ok v d.w) : ∃ v d, s.run P c.w = .ok v d.w ∧ VR d r v ∧ Then c nb W d := ⟨v, d, hs, hv, T⟩
/-- nothing is appended where there is room for nothing -/
theorem run_append_noop {t tx ty e : TypeId} {i : TypeInfo} (ht : P.underlying t = some (.slice e)) (hi : P.info? e = some i) {v : Value} {news : List Value} {A : Option Addr} {n k : Nat} (hs : Src P i.size tx v 0 news c.w) (hnk : n ≤ k) :
    (Builtin.append_ #[t, tx] ty #[.slice A n k, v]).run P c.w = .ok (.slice A n k) c.w := by
  have hn : news = [] := List.eq_nil_of_length_eq_zero (by have := hs.newsLen; simpa using this)
  subst hn
  have hc := hs.cells
  rcases hs.kind with ⟨e', hk⟩ | hk <;> cases A <;> simp [Builtin.append_, run_underlying ht, run_underlying hk, sizeOf, typeInfo, hi, hs.len, hnk, hc, storeCells]

theorem g_appA {t tx ty e : TypeId} (hneM : e ≠ MAPE) {i : TypeInfo} {z : Value} (ht : P.underlying t = some (.slice e)) (hi : P.info? e = some i) (hz : i.zero = some z) (hzs : z.cells.size = i.size) (hb0 : 0 < i.bytes) {a : AV} {u v : Value} (h : VR c a u)
    {m : Nat} {l : List AV} {news : List Value} (hs : Src P i.size tx v m news c.w) (hl : VRl c l news) :
    Gives P (Builtin.append_ #[t, tx] ty #[u, v]) c (appA nb e i.size i.bytes a m l) nb := by
  have hll := (VRl_iff.1 hl).1
  have hnl := hs.newsLen
  have b63 : ∀ q : Nat, q * i.bytes ≤ 140737488355328 → ((q : Nat) : Int) ≤ 9223372036854775807 := fun q hq => by have := Nat.le_mul_of_pos_right q hb0; omega
  cases a with
  | v x =>
    have e0 : u = x := h
    subst e0
    unfold appA
    split
    · rename_i h0
      cases h0
      split
      · rename_i hb
        intro r R W hr hh hn
        simp [AM.run] at hr
        obtain ⟨rfl, rfl, rfl⟩ := hr
        have hn1 := (hn nb (Nat.le_refl _)).resolve_right (by omega)
        by_cases h0 : m = 0
        · subst h0
          have : l = [] := List.eq_nil_of_length_eq_zero (by omega)
          subst this
          exact mkG (Then.virtual hh hn1 true e hneM) ⟨none, 0, rfl, Nat.le_refl _, .inl ⟨by simp [Cx.put], rfl⟩⟩ (run_append_noop ht hi hs (Nat.le_refl _))
        · have hrun := run_append_grow_src c.w t tx ty e i z ht hi hz none 0 0 [] (by simp [Builtin.firstCells]) v m news hs (by omega) (b63 _ (by simpa using hb)) (growslice_fits (by omega) (by simpa using hb))
          rw [Nat.zero_add] at hrun
          have T0 := Then.drew hh nb
          have T := Then.alloc (c := ⟨c.w.drew, c.B, c.φ, c.σ, c.X, c.Y⟩) T0.hr hn1 (([] ++ news).toArray ++ Builtin.zeroCells z.cells (grownCap c.w m 0 e - m)) e hneM l (by simp; omega) (fun j a hj => by
            obtain ⟨u, e1, e2, e3⟩ := (VRl_iff.1 hl).2 j a hj
            refine ⟨u, ?_, e2, e3.mono T0.grow T0.names⟩
            have : j < news.length := by rw [List.getElem?_eq_some_iff] at e1; exact e1.1
            rw [Array.getElem?_append_left (by simpa using this)]
            simpa using e1) true
          refine ⟨_, _, hrun, ⟨_, _, rfl, grownCap_ge c.w m 0 e, .inr ⟨c.w.heap.size, by simp [Cx.put], rfl, _, e, (0, 0), heap_new _ _, ?_⟩⟩, (T0.trans T)⟩
          have := grownCap_ge c.w m 0 e
          simp only [Array.size_append, List.size_toArray, List.nil_append, zeroCells_size, hzs, Nat.zero_add] at *
          rw [hnl, ← Nat.add_mul]
          have : m + (grownCap c.w m 0 e - m) = grownCap c.w m 0 e := by omega
          rw [this]
          exact Nat.le_refl _
      · exact Gives.fail
    · rename_i h0; cases h0
    · exact Gives.fail
  | os id off n sz' =>
    unfold appA
    split
    · rename_i h0; cases h0
    · rename_i h0
      cases h0
      obtain ⟨A, k, rfl, hnk, hA⟩ := h
      refine Gives.look fun hh o ho => ?_
      obtain ⟨y, e', cells⟩ := o
      simp only
      split
      · rename_i hcnd
        obtain ⟨rfl, rfl, hcl, hb⟩ := hcnd
        intro r R W hr _ hn
        simp [AM.run] at hr
        obtain ⟨rfl, rfl, rfl⟩ := hr
        have hn1 := (hn nb (Nat.le_refl _)).resolve_right (by omega)
        have hne : id ≠ nb := by
          intro e1
          rw [e1, hh.noRow hn1] at ho
          cases ho
        by_cases hroom : n + m ≤ k
        · by_cases hk0 : k = 0
          · obtain ⟨rfl, rfl, rfl⟩ : n = 0 ∧ m = 0 ∧ k = 0 := by omega
            have h1 : l = [] := List.eq_nil_of_length_eq_zero (by omega)
            have h2 : cells = [] := List.eq_nil_of_length_eq_zero (by omega)
            subst h1; subst h2
            have T1 := Then.drop hh nb id
            have T2 := Then.virtual T1.hr (nb := nb) hn1 y e' hneM
            exact mkG (T1.trans T2) ⟨A, 0, rfl, Nat.le_refl _, .inl ⟨by simp [Cx.put], rfl⟩⟩ (run_append_noop ht hi hs (Nat.le_refl _))
          · rcases hA with ⟨_, h1⟩ | ⟨b, hφ, rfl, cs, e2, f2, hcs, hsz⟩
            · exact absurd h1 hk0
            · obtain ⟨cs', hb', hle, hcells, _⟩ := hh.cells ho hφ ⟨_, _, _, hcs⟩
              rw [hcs] at hb'
              cases hb'
              have hmul : (n + m) * i.size ≤ k * i.size := Nat.mul_le_mul_right _ hroom
              rw [Nat.add_mul] at hmul
              have hin : ∀ j, j < news.length → ∃ u, c.w.cell? ⟨b, 0 + n * i.size + j, none⟩ = some u := fun j hj => by
                have hlt : 0 + n * i.size + j < cs.size := by omega
                exact ⟨cs[0 + n * i.size + j], by simp [World.cell?, hcs, hlt]⟩
              have hrun := run_append_room_src c.w t tx ty e' i ht hi b 0 n k v m news hs hroom (fun j hj => by obtain ⟨u, hu⟩ := hin j hj; rw [hu]; rfl) (fun j _ => by simp [World.frozen?, hcs])
              have T1 := Then.store hh nb ho hφ hcs (0 + n * i.size) news (cells' := cells ++ l) (by omega) (by simp; omega) (fun j a hj => by
                rw [setA_get _ _ _ _ (by omega)]
                rw [List.getElem?_append] at hj
                split at hj
                · rw [if_neg (by omega)]; exact hcells j a hj
                · rename_i hj2
                  have hj3 : j - cells.length < l.length := by rw [List.getElem?_eq_some_iff] at hj; exact hj.1
                  rw [if_pos (by omega), show j - (0 + n * i.size) = j - cells.length from by omega]
                  exact (VRl_iff.1 hl).2 _ _ hj)
              have T2 := Then.rename T1.hr (nb := nb) hn1 hne (by simp [app]; exact ⟨rfl, rfl, rfl⟩) hφ
              refine ⟨_, _, hrun, ⟨_, k, rfl, hroom, .inr ⟨b, by simp [Cx.put], rfl, setA cs (0 + n * i.size) news, e', (0, 0), setCells_heap _ _ _ _ hcs, by rw [setA_size]; exact hsz⟩⟩, (T1.trans T2).eqW ?_⟩
              funext q
              simp only [app, List.cons_append, List.nil_append]
              by_cases q1 : q = nb <;> by_cases q2 : q = id <;> simp [q1, q2]
        · have hold : ∃ olds : List Value, (Builtin.firstCells i.size n (.slice A n k)).run P c.w.drew = .ok olds.toArray c.w.drew ∧ olds.length = n * i.size ∧ ∀ (j : Nat) a, cells[j]? = some a → ∃ u, olds[j]? = some u ∧ u.oneCell' = true ∧ VR c a u := by
            by_cases h0 : n = 0
            · subst h0
              have h2 : cells = [] := List.eq_nil_of_length_eq_zero (by omega)
              subst h2
              exact ⟨[], by cases A <;> simp [Builtin.firstCells, loadCells, loadCellsFrom], by simp, fun j a hj => by simp at hj⟩
            · rcases hA with ⟨_, h1⟩ | ⟨b, hφ, rfl, cs9, e9, f9, h9, _⟩
              · omega
              · obtain ⟨cs, _, _, _, hm⟩ := hh.cells ho hφ ⟨_, _, _, h9⟩
                obtain ⟨us, e1, e2, e3⟩ := range_list (c := c) (b := b) (off := 0) (l := cells) hm
                exact ⟨us, run_firstCells_some c.w.drew i.size n ⟨b, 0, none⟩ n k us (by omega) (fun j u hu => by rw [Addr.add_mid]; simpa using e2 j u hu), by omega, (VRl_iff.1 e3).2⟩
          obtain ⟨olds, hold, hol, hov⟩ := hold
          have hrun := run_append_grow_src c.w t tx ty e' i z ht hi hz A n k olds hold v m news hs (by omega) (b63 _ hb) (growslice_fits (by omega) hb)
          have T0 := Then.drew hh nb
          have T := Then.alloc (c := ⟨c.w.drew, c.B, c.φ, c.σ, c.X, c.Y⟩) T0.hr hn1 ((olds ++ news).toArray ++ Builtin.zeroCells z.cells (grownCap c.w (n + m) k e' - (n + m))) e' hneM (cells ++ l) (by simp; omega) (fun j a hj => by
            rw [List.getElem?_append] at hj
            split at hj
            · obtain ⟨u, e1, e2, e3⟩ := hov j a hj
              refine ⟨u, ?_, e2, e3.mono T0.grow T0.names⟩
              rw [Array.getElem?_append_left (by simp; omega)]
              simp only [List.getElem?_toArray]
              rw [List.getElem?_append_left (by omega)]; exact e1
            · rename_i hj2
              obtain ⟨u, e1, e2, e3⟩ := (VRl_iff.1 hl).2 _ a hj
              refine ⟨u, ?_, e2, e3.mono T0.grow T0.names⟩
              have h9 : j - cells.length < news.length := by rw [List.getElem?_eq_some_iff] at e1; exact e1.1
              rw [Array.getElem?_append_left (by simp; omega)]
              simp only [List.getElem?_toArray]
              rw [List.getElem?_append_right (by omega), show j - olds.length = j - cells.length from by omega]; exact e1) y
          have T2 := Then.drop T.hr nb id
          refine ⟨_, _, hrun, ⟨_, _, rfl, grownCap_ge _ _ _ _, .inr ⟨c.w.heap.size, by simp [Cx.put], rfl, _, e', (0, 0), heap_new _ _, ?_⟩⟩, ((T0.trans T).trans T2).eqW ?_⟩
          · have := grownCap_ge c.w (n + m) k e'
            simp only [Array.size_append, List.size_toArray, List.length_append, zeroCells_size, hzs, Nat.zero_add] at *
            rw [hol, hnl, ← Nat.add_mul, ← Nat.add_mul]
            have : n + m + (grownCap c.w (n + m) k e' - (n + m)) = grownCap c.w (n + m) k e' := by omega
            rw [this]
            exact Nat.le_refl _
          · funext q
            simp only [app, List.cons_append, List.nil_append]
            by_cases q1 : q = nb <;> by_cases q2 : q = id <;> simp [q1, q2]
            · exact absurd (q2.symm.trans q1) hne
            · intro h9; exact absurd h9.symm hne
            · intro h9; exact absurd h9 hne
      · exact Gives.fail
    · exact Gives.fail
  | _ => exact Gives.fail
end Go.Proofs.YtonglhkiobibgaaGreatDoor
namespace Go.Proofs.YtonglhkiobibgaaGreatDoor
open Go.RowKit
variable {P : Program} {c : Cx} {nb : Nat}

theorem g_foff {s : TypeId} {fs : Array Field} {f : Field} {i : TypeInfo} {k : Nat} (hu : P.underlying s = some (.struct fs)) (hf : fs[k]? = some f) (hi : P.info? f.type = some i) (h0 : i.size ≠ 0) {a : AV} {u : Value} (h : VR c a u) :
    Gives P (Instr.fieldAt s u k) c (foffA f.offset a) nb := by
  cases a with
  | op id off =>
    obtain ⟨b, hφ, rfl, hcl⟩ := h
    exact Gives.pure (v := .pointer (some ⟨b, off + f.offset, none⟩)) (by simp [Instr.fieldAt, run_underlying hu, hf, Instr.sureAddr, fieldPlace, sizeOf, typeInfo, hi, h0, Addr.add_mid]) ⟨b, hφ, rfl, hcl⟩
  | fp fr cs off =>
    obtain ⟨b, o, rfl, h1, h2, h3⟩ := h
    exact Gives.pure (v := .pointer (some ⟨b, o + (off + f.offset), none⟩)) (by simp [Instr.fieldAt, run_underlying hu, hf, Instr.sureAddr, fieldPlace, sizeOf, typeInfo, hi, h0, Addr.add_mid, Nat.add_assoc]) ⟨b, o, rfl, h1, h2, h3⟩
  | _ => exact Gives.fail
theorem g_idx {t e : TypeId} {j : TypeInfo} (hu : P.underlying t = some (.slice e)) (hj : P.info? e = some j) {a x : AV} {u v : Value} (h : VR c a u) (hx : VR c x v) :
    Gives P (Instr.indexAt t u v) c (idxA j.size a x) nb := by
  cases x with
  | v x =>
    have e0 : v = x := hx
    subst e0
    cases v with
    | int k i =>
      cases a with
      | fs fr cs n =>
        simp only [idxA]
        split
        · rename_i hh
          obtain ⟨A, k', rfl, _, hm⟩ := h
          obtain ⟨b, off, rfl, h1, h2, h3⟩ := hm (by omega)
          exact Gives.pure (v := .pointer (some ⟨b, off + i.toNat * j.size, none⟩)) (by simp [Instr.indexAt, asIntOf, run_underlying hu, hh, sizeOf, typeInfo, hj, Addr.add_mid]) ⟨b, off, rfl, h1, h2, h3⟩
        · exact Gives.fail
      | os id off n sz =>
        simp only [idxA]
        split
        · rename_i hh
          obtain ⟨A, k', rfl, hk, hm⟩ := h
          rcases hm with ⟨_, h1⟩ | ⟨b, hφ, rfl, cs9, e9, f9, h9, _⟩
          · omega
          · exact Gives.pure (v := .pointer (some ⟨b, off + i.toNat * j.size, none⟩)) (by simp [Instr.indexAt, asIntOf, run_underlying hu, hh, sizeOf, typeInfo, hj, Addr.add_mid]) ⟨b, hφ, rfl, _, _, _, h9⟩
        · exact Gives.fail
      | ws k n =>
        simp only [idxA]
        split
        · rename_i hh
          obtain ⟨h1, h2, h3⟩ := hh
          obtain ⟨A, k', rfl, hk, hm⟩ := h
          obtain ⟨b, off, rfl, hX, hT, hY, hkk, sz, hty, hle⟩ := hm (by omega)
          exact Gives.pure (v := .pointer (some ⟨b, off + i.toNat * j.size, none⟩)) (by simp [Instr.indexAt, asIntOf, run_underlying hu, h2, h3, sizeOf, typeInfo, hj, Addr.add_mid]) ⟨b, off + i.toNat * j.size, rfl, hX, hT, hY, hkk, sz, hty, by rw [h1]; omega⟩
        · exact Gives.fail
      | _ => exact Gives.fail
    | _ => exact Gives.fail
  | _ => exact Gives.fail
theorem g_fld {s : TypeId} {fs : Array Field} {f : Field} {i : TypeInfo} {d : TypeDesc} {k : Nat} (hu : P.underlying s = some (.struct fs)) (hf : fs[k]? = some f) (hi : P.info? f.type = some i) (hd : P.underlying f.type = some d) {a : AV} {u : Value} (h : VR c a u) :
    Gives P (Instr.field s u k) c (fldA d.isRow f.offset i.size a) nb := by
  cases a with
  | agg l =>
    obtain ⟨us, rfl, hl⟩ := h
    rw [VRl_iff] at hl
    simp only [fldA, ldA]
    have hrun : ∀ w, (Instr.field s (.agg us.toArray) k).run P w = (part f.type us.toArray f.offset).run P w := fun w => by simp [Instr.field, run_underlying hu, hf, asAgg]
    cases hr : d.isRow with
    | true =>
      rw [if_pos rfl]
      split
      · rename_i l' hl'
        obtain ⟨e1, e2⟩ := getN_spec hl'
        have hle : f.offset + i.size ≤ us.length ∨ i.size = 0 := by
          by_cases h0 : i.size = 0
          · exact .inr h0
          · have := e2 (i.size - 1) (l'[i.size - 1]'(by omega)) (List.getElem?_eq_getElem (by omega))
            rw [List.getElem?_eq_some_iff] at this
            left; have := this.1; omega
        refine Gives.pure (v := .agg (us.toArray.extract f.offset (f.offset + i.size))) (by rw [hrun]; simp [part, run_isAgg hd, hr, sizeOf, typeInfo, hi]) ⟨(us.drop f.offset).take i.size, ?_, ?_⟩
        · congr 1
          apply Array.ext'
          simp
        · rw [VRl_iff]
          refine ⟨by simp; omega, fun j a hj => ?_⟩
          have hjl : j < i.size := by rw [List.getElem?_eq_some_iff] at hj; have := hj.1; omega
          obtain ⟨u, e3, e4, e5⟩ := hl.2 _ _ (e2 j a hj)
          exact ⟨u, by rw [List.getElem?_take, if_pos hjl, List.getElem?_drop]; exact e3, e4, e5⟩
      · exact Gives.fail
    | false =>
      rw [if_neg (by decide)]
      split
      · rename_i x hx
        obtain ⟨u, e1, e2, e3⟩ := hl.2 _ _ hx
        exact Gives.pure (v := u) (by rw [hrun]; simp [part, run_isAgg hd, hr, e1]) e3
      · exact Gives.fail
  | _ => exact Gives.fail
theorem run_lohi {lo hi : Option AV} {vlo vhi : Option Value} {n k l h : Nat} (hlo : ∀ a, lo = some a → ∃ u, vlo = some u ∧ VR c a u) (hlo0 : lo = none → vlo = none) (hhi : ∀ a, hi = some a → ∃ u, vhi = some u ∧ VR c a u) (hhi0 : hi = none → vhi = none) (hnk : n ≤ k)
    (hl : lohi n lo hi = some (l, h)) (w : World) : (Instr.sliceBounds true n k vlo vhi none).run P w = .ok (l, h, k) w ∧ l ≤ h ∧ h ≤ n := by
  unfold lohi at hl
  split at hl
  · rw [hlo0 rfl, hhi0 rfl]
    simp at hl; obtain ⟨rfl, rfl⟩ := hl
    exact ⟨by simp [Instr.sliceBounds], by omega, by omega⟩
  · rename_i kk i
    split at hl
    · rename_i hh
      simp at hl; obtain ⟨rfl, rfl⟩ := hl
      obtain ⟨u, rfl, e⟩ := hlo _ rfl
      have e' : u = _ := e
      rw [hhi0 rfl, e']
      exact ⟨by simp [Instr.sliceBounds, Instr.sliceBound, asIntOf, hh], by omega, by omega⟩
    · cases hl
  · rename_i kk i
    split at hl
    · rename_i hh
      simp at hl; obtain ⟨rfl, rfl⟩ := hl
      obtain ⟨u, rfl, e⟩ := hhi _ rfl
      have e' : u = _ := e
      rw [hlo0 rfl, e']
      exact ⟨by simp [Instr.sliceBounds, Instr.sliceBound, asIntOf, hh, show i ≤ (k : Int) by omega], by omega, by omega⟩
    · cases hl
  · rename_i k1 i1 k2 i2
    split at hl
    · rename_i hh
      simp at hl; obtain ⟨rfl, rfl⟩ := hl
      obtain ⟨u, rfl, e⟩ := hlo _ rfl
      obtain ⟨u2, rfl, e2⟩ := hhi _ rfl
      have e' : u = _ := e
      have e2' : u2 = _ := e2
      rw [e', e2']
      exact ⟨by simp [Instr.sliceBounds, Instr.sliceBound, asIntOf, hh, show i2 ≤ (k : Int) by omega, show (0 : Int) ≤ i2 by omega, show (0 : Int) ≤ i1 by omega]; intro h9; exfalso; omega, by omega, by omega⟩
    · cases hl
  · cases hl
theorem g_slice {t e : TypeId} {j : TypeInfo} (hu : P.underlying t = some (.slice e)) (hj : P.info? e = some j) {a : AV} {u : Value} (h : VR c a u) {lo hi : Option AV} {vlo vhi : Option Value}
    (hlo : ∀ a, lo = some a → ∃ u, vlo = some u ∧ VR c a u) (hlo0 : lo = none → vlo = none) (hhi : ∀ a, hi = some a → ∃ u, vhi = some u ∧ VR c a u) (hhi0 : hi = none → vhi = none) :
    Gives P (Instr.sliceAt t u vlo vhi none) c (sliceA j.size a lo hi) nb := by
  have hrun : ∀ A n k l h w, (Instr.sliceBounds true n k vlo vhi none).run P w = .ok (l, h, k) w → (Instr.sliceAt t (.slice A n k) vlo vhi none).run P w = .ok (.slice (if k = l then A else A.map (·.add (l * j.size))) (h - l) (k - l)) w := by
    intro A n k l h w hb
    simp [Instr.sliceAt, Instr.slice, run_underlying hu, hb, sizeOf, typeInfo, hj]
  cases a with
  | fs fr cs n =>
    obtain ⟨A, k, rfl, hnk, hm⟩ := h
    simp only [sliceA]
    split
    · rename_i l h' hl
      obtain ⟨h1, h2, h3⟩ := run_lohi (P := P) hlo hlo0 hhi hhi0 hnk hl c.w
      refine Gives.pure (hrun A n k l h' c.w h1) ⟨_, _, rfl, by omega, fun h0 => ?_⟩
      obtain ⟨b, off, rfl, e1, e2, e3⟩ := hm (by omega)
      rw [VRm_iff] at e3
      refine ⟨b, off + l * j.size, by rw [if_neg (by omega)]; simp [Addr.add_mid], e1, e2, VRm_iff.2 fun q a hq => ?_⟩
      rw [List.getElem?_take] at hq
      split at hq
      · rw [List.getElem?_drop] at hq
        have := e3 _ _ hq
        rwa [← Nat.add_assoc] at this
      · cases hq
    · exact Gives.fail
  | os id off n sz =>
    obtain ⟨A, k, rfl, hnk, hm⟩ := h
    simp only [sliceA]
    split
    · rename_i l h' hl
      split
      · rename_i hsz
        subst hsz
        obtain ⟨h1, h2, h3⟩ := run_lohi (P := P) hlo hlo0 hhi hhi0 hnk hl c.w
        refine Gives.pure (hrun A n k l h' c.w h1) ⟨_, _, rfl, by omega, ?_⟩
        rcases hm with ⟨e1, e2⟩ | ⟨b, e1, rfl, cs, ee, ff, e2, e3⟩
        · exact .inl ⟨e1, by omega⟩
        · by_cases hkl : k = l
          · exact .inl ⟨by rw [e1]; simp, by omega⟩
          · refine .inr ⟨b, e1, by rw [if_neg hkl]; simp [Addr.add_mid], cs, ee, ff, e2, ?_⟩
            have : l * j.size + (k - l) * j.size = k * j.size := by rw [← Nat.add_mul]; congr 1; omega
            omega
      · exact Gives.fail
    · exact Gives.fail
  | v x =>
    have e0 : u = x := h
    subst e0
    unfold sliceA
    split
    · rename_i h0; cases h0
    · rename_i h0; cases h0
    · rename_i h0
      cases h0
      split
      · rename_i l h' hl
        obtain ⟨h1, h2, h3⟩ := run_lohi (P := P) (n := 0) (k := 0) hlo hlo0 hhi hhi0 (Nat.le_refl _) hl c.w
        have e1 : l = 0 := by omega
        have e2 : h' = 0 := by omega
        subst e1; subst e2
        have := hrun none 0 0 0 0 c.w h1
        exact Gives.pure (by simpa using this) rfl
      · exact Gives.fail
    · exact Gives.fail
  | _ => exact Gives.fail
theorem flatten_get {z : List AV} : ∀ {n : Nat} {q : Nat} {a : AV}, (List.replicate n z).flatten[q]? = some a → q < n * z.length ∧ z[q % z.length]? = some a
  | 0, q, a, h => by simp at h
  | n + 1, q, a, h => by
    rw [List.replicate_succ, List.flatten_cons, List.getElem?_append] at h
    split at h
    · rename_i hlt
      refine ⟨by rw [Nat.add_mul]; omega, by rw [Nat.mod_eq_of_lt hlt]; exact h⟩
    · rename_i hge
      obtain ⟨h1, h2⟩ := flatten_get h
      refine ⟨by rw [Nat.add_mul]; omega, ?_⟩
      rw [Nat.mod_eq_sub_mod (by omega)]; exact h2
theorem flatten_len {z : List AV} {n : Nat} : ((List.replicate n z).flatten).length = n * z.length := by simp
theorem g_mksl {t e : TypeId} (hneM : e ≠ MAPE) {j : TypeInfo} {z : Value} (hu : P.underlying t = some (.slice e)) (hj : P.info? e = some j) (hz : j.zero = some z) (hzs : z.cells.size = j.size) (h1 : z.cells.toList.all (·.oneCell') = true)
    {a x : AV} {u v : Value} (h : VR c a u) (hx : VR c x v) : Gives P (Instr.makeSlice t u v) c (mkslA nb e j.size j.bytes z.cells.toList a x) nb := by
  cases a with
  | v a =>
    have e0 : u = a := h
    subst e0
    cases u with
    | int ka i =>
      cases x with
      | v x =>
        have e0 : v = x := hx
        subst e0
        cases v with
        | int kx jj =>
          simp only [mkslA]
          split
          · rename_i hh
            intro r R W hr hH hn
            simp [AM.run] at hr
            obtain ⟨rfl, rfl, rfl⟩ := hr
            have hn1 := (hn nb (Nat.le_refl _)).resolve_right (by omega)
            have hrun := run_make (P := P) c.w t e j z hu hj hz ka kx i jj hh.1 hh.2.1 hh.2.2.1 hh.2.2.2
            have hle : i.toNat * j.size ≤ jj.toNat * j.size := Nat.mul_le_mul_right _ (by omega)
            have T := Then.alloc hH hn1 (madeCells z.cells (jj.toNat * j.size)) e hneM ((List.replicate i.toNat (z.cells.toList.map .v)).flatten) (by rw [flatten_len, size_madeCells]; simp [hzs]; exact hle) (fun q a hq => by
              obtain ⟨f1, f2⟩ := flatten_get hq
              rw [List.length_map, Array.length_toList, hzs] at f1 f2
              rw [List.getElem?_map, Option.map_eq_some_iff] at f2
              obtain ⟨y, hy, rfl⟩ := f2
              refine ⟨y, ?_, List.all_eq_true.1 h1 y (List.mem_of_getElem? hy), rfl⟩
              have hpos : 0 < z.cells.size := by rw [hzs]; rcases Nat.eq_zero_or_pos j.size with h0 | h0; · rw [h0] at f1; omega
                                                 · exact h0
              have hq2 : q % z.cells.size < z.cells.size := Nat.mod_lt _ hpos
              have hqn : q < jj.toNat * j.size := by omega
              simp only [madeCells, Array.getElem?_map, Array.getElem?_range, hqn, if_true, Option.map_some]
              rw [getElem!_pos z.cells _ hq2]
              rw [← hzs] at hy
              rw [Array.getElem?_toList, Array.getElem?_eq_getElem hq2] at hy
              exact hy) true
            refine mkG T ⟨_, _, rfl, by omega, .inr ⟨c.w.heap.size, by simp [Cx.put], rfl, madeCells z.cells (jj.toNat * j.size), e, (0, 0), heap_new _ _, by rw [size_madeCells]; omega⟩⟩ hrun
          · exact Gives.fail
        | _ => exact Gives.fail
      | _ => exact Gives.fail
    | _ => exact Gives.fail
  | _ => exact Gives.fail
theorem g_bin {op : BinOp} {t : TypeId} {x y : Operand} {a b : AV} {u v : Value} (h : VR c a u) (h' : VR c b v) :
    Gives P (do eqGuard op t x y u v; binOp op t u v) c (binA op a b) nb := by
  cases a with
  | v p =>
    cases b with
    | v q =>
      have e1 : u = p := h
      have e2 : v = q := h'
      subst e1; subst e2
      simp only [binA]
      split
      · rename_i r hr
        have hbq : ∀ a b : Int, (a == b) = decide (a = b) := fun a b => by rw [Bool.eq_iff_iff]; simp
        have hnq : ∀ a b : Int, (a != b) = !decide (a = b) := fun a b => by rw [bne, hbq]
        have key : (do eqGuard op t x y u v; binOp op t u v : Sem Value).run P c.w = .ok r c.w := by
          cases u with
          | int k i =>
            cases v with
            | int k' i' =>
              simp only [binVal] at hr
              split at hr
              · rename_i hs
                cases op <;> simp [isSh] at hs <;> simp [shVal] at hr <;> (obtain ⟨h1, rfl⟩ := hr; simp [eqGuard, binOp, Op.shift, show ¬ i' < 0 from by omega])
              · rename_i hs
                split at hr
                · rename_i hk
                  subst hk
                  cases op <;> simp [isSh] at hs <;> simp [intVal] at hr <;> first
                    | (obtain ⟨h1, rfl⟩ := hr; simp [eqGuard, binOp, Op.intDiv, h1]; done)
                    | (subst hr; simp [eqGuard, binOp, Op.intArith, Op.intBits, Op.intCmp, hbq, hnq]; done)
                · cases hr
            | _ => simp [binVal] at hr
          | string s =>
            cases v with
            | string s' =>
              simp only [binVal] at hr
              have hbe : (s.toList == s'.toList) = decide (s = s') := by
                rw [Bool.eq_iff_iff]
                simp
                constructor
                · intro h9
                  rw [ByteArray.toList_eq, ByteArray.toList_eq] at h9
                  exact ByteArray.ext (Array.ext' h9)
                · intro h9; rw [h9]
              cases op <;> simp [strOp] at hr <;> first
                | (subst hr; simp [eqGuard, binOp, Op.stringOp, hbe]; done)
                | (obtain ⟨h1, rfl⟩ := hr; simp [eqGuard, binOp, Op.stringOp]; omega)
            | _ => simp [binVal] at hr
          | _ => simp [binVal] at hr
        exact Gives.pure key rfl
      · exact Gives.fail
    | _ => exact Gives.fail
  | wv k =>
    cases k with
    | u8 =>
      cases b with
      | v q =>
        have e2 : v = q := h'
        subst e2
        cases v with
        | int k' i' =>
          cases k' with
          | u8 =>
            simp only [binA]
            split
            · rename_i hh
              obtain ⟨n, rfl⟩ := h
              cases op <;> simp [isXor] at hh
              exact Gives.pure (v := .int .u8 (IntKind.u8.wrap (BitVec.ofInt IntKind.u8.bits n ^^^ BitVec.ofInt IntKind.u8.bits i').toNat)) (by simp [eqGuard, binOp, Op.intArith, Op.intBits]) ⟨_, rfl⟩
            · exact Gives.fail
          | _ => exact Gives.fail
        | _ => exact Gives.fail
      | _ => exact Gives.fail
    | _ => exact Gives.fail
  | _ => exact Gives.fail
theorem g_beq {op : BinOp} {neg : Bool} (ho : op = .eql ∧ neg = false ∨ op = .neq ∧ neg = true) {t : TypeId} (hu : P.underlying t = some .bool) {x y : Operand} {a b : AV} {u v : Value} (h : VR c a u) (h' : VR c b v) :
    Gives P (do eqGuard op t x y u v; binOp op t u v) c (beqA neg a b) nb := by
  cases a with
  | v p =>
    have e1 : u = p := h
    subst e1
    cases u with
    | bool p =>
      cases b with
      | v q =>
        have e2 : v = q := h'
        subst e2
        cases v with
        | bool q =>
          refine Gives.pure (v := .bool (decide (p = q) != neg)) ?_ rfl
          rcases ho with ⟨rfl, rfl⟩ | ⟨rfl, rfl⟩ <;> cases p <;> cases q <;> simp [eqGuard, binOp, run_equal_bool (P := P) c.w t _ _ hu]
        | _ => exact Gives.fail
      | _ => exact Gives.fail
    | _ => exact Gives.fail
  | _ => exact Gives.fail
theorem eqL_int {ks : List EK} {l q : List AV} {r : Bool} (he : eqL (.i :: ks) l q = some r) : ∃ ka x l' y q' t, l = .v (.int ka x) :: l' ∧ q = .v (.int ka y) :: q' ∧ eqL ks l' q' = some t ∧ r = (decide (x = y) && t) := by
  cases l with
  | nil => simp [eqL] at he
  | cons a l =>
    cases a <;> try (simp [eqL] at he; done)
    rename_i z
    cases z <;> try (simp [eqL] at he; done)
    rename_i ka x
    cases q with
    | nil => simp [eqL] at he
    | cons a q =>
      cases a <;> try (simp [eqL] at he; done)
      rename_i z
      cases z <;> try (simp [eqL] at he; done)
      rename_i kb y
      simp only [eqL] at he
      split at he <;> try (cases he; done)
      rename_i hk
      subst hk
      split at he <;> try (cases he; done)
      rename_i t ht
      cases he
      exact ⟨_, _, _, _, _, t, rfl, rfl, ht, rfl⟩
theorem eqL_bool {ks : List EK} {l q : List AV} {r : Bool} (he : eqL (.b :: ks) l q = some r) : ∃ x l' y q' t, l = .v (.bool x) :: l' ∧ q = .v (.bool y) :: q' ∧ eqL ks l' q' = some t ∧ r = (decide (x = y) && t) := by
  cases l with
  | nil => simp [eqL] at he
  | cons a l =>
    cases a <;> try (simp [eqL] at he; done)
    rename_i z
    cases z <;> try (simp [eqL] at he; done)
    rename_i x
    cases q with
    | nil => simp [eqL] at he
    | cons a q =>
      cases a <;> try (simp [eqL] at he; done)
      rename_i z
      cases z <;> try (simp [eqL] at he; done)
      rename_i y
      simp only [eqL] at he
      split at he <;> try (cases he; done)
      rename_i t ht
      cases he
      exact ⟨_, _, _, _, t, rfl, rfl, ht, rfl⟩
theorem eqL_str {ks : List EK} {l q : List AV} {r : Bool} (he : eqL (.s :: ks) l q = some r) : ∃ x l' y q' t, l = .v (.string x) :: l' ∧ q = .v (.string y) :: q' ∧ eqL ks l' q' = some t ∧ r = (decide (x = y) && t) := by
  cases l with
  | nil => simp [eqL] at he
  | cons a l =>
    cases a <;> try (simp [eqL] at he; done)
    rename_i z
    cases z <;> try (simp [eqL] at he; done)
    rename_i x
    cases q with
    | nil => simp [eqL] at he
    | cons a q =>
      cases a <;> try (simp [eqL] at he; done)
      rename_i z
      cases z <;> try (simp [eqL] at he; done)
      rename_i y
      simp only [eqL] at he
      split at he <;> try (cases he; done)
      rename_i t ht
      cases he
      exact ⟨_, _, _, _, t, rfl, rfl, ht, rfl⟩
theorem eqL_run {d : Nat} {us vs : Array Value} : ∀ {fs : List Field} {k : Nat} {ks : List EK} {l q : List AV} {r : Bool} {w : World}, fldKinds P fs k = some ks → eqL ks l q = some r →
    (∀ (j : Nat) a, l[j]? = some a → ∃ u, us[k + j]? = some u ∧ VR c a u) → (∀ (j : Nat) a, q[j]? = some a → ∃ u, vs[k + j]? = some u ∧ VR c a u) → (Op.eqFields (d + 1) us vs fs).run P w = .ok r w
  | [], k, ks, l, q, r, w, hf, he, hu, hv => by
    simp [fldKinds] at hf
    subst hf
    cases l <;> cases q <;> simp [eqL] at he
    subst he
    simp [Op.eqFields]
  | f :: fs, k, ks, l, q, r, w, hf, he, hu, hv => by
    unfold fldKinds at hf
    split at hf
    · rename_i hn
      obtain ⟨hn1, hn2⟩ := hn
      have ih := fun (ks : List EK) (l q : List AV) (r : Bool) (w : World) h1 h2 h3 h4 => eqL_run (d := d) (us := us) (vs := vs) (fs := fs) (k := k + 1) (ks := ks) (l := l) (q := q) (r := r) (w := w) h1 h2 h3 h4
      have tl : ∀ (us : Array Value) (a : AV) (l : List AV), (∀ (j : Nat) b, (a :: l)[j]? = some b → ∃ u, us[k + j]? = some u ∧ VR c b u) → (∃ u, us[k]? = some u ∧ VR c a u) ∧ ∀ (j : Nat) b, l[j]? = some b → ∃ u, us[k + 1 + j]? = some u ∧ VR c b u :=
        fun us a l h => ⟨h 0 a rfl, fun j b hj => by have := h (j + 1) b (by simpa using hj); rwa [Nat.add_assoc, Nat.add_comm 1 j]⟩
      split at hf
      · rename_i ik hty
        split at hf
        · rename_i ks' hks
          cases hf
          obtain ⟨ka, x, l', y, q', t, rfl, rfl, ht, rfl⟩ := eqL_int he
          · obtain ⟨⟨u, h1, h2⟩, h3⟩ := tl _ _ _ hu
            obtain ⟨⟨v, h4, h5⟩, h6⟩ := tl _ _ _ hv
            cases h2
            cases h5
            have p1 : ∀ w, (part f.type us f.offset).run P w = .ok (.int ka x) w := fun w => by simp [part, Sem.run_bind, run_isAgg hty, hn2, h1, TypeDesc.isRow]
            have p2 : ∀ w, (part f.type vs f.offset).run P w = .ok (.int ka y) w := fun w => by simp [part, Sem.run_bind, run_isAgg hty, hn2, h4, TypeDesc.isRow]
            have ih' := ih _ _ _ _ w hks ht h3 h6
            simp only [Op.eqFields, if_pos hn1, Sem.run_bind, p1, p2, run_equalIn_int _ _ _ _ _ _ _ hty, Result.andThen_ok]
            by_cases hxy : x = y
            · simp [hxy, ih']
            · simp [hxy]
        · cases hf
      · rename_i hty
        split at hf
        · rename_i ks' hks
          cases hf
          obtain ⟨x, l', y, q', t, rfl, rfl, ht, rfl⟩ := eqL_bool he
          · obtain ⟨⟨u, h1, h2⟩, h3⟩ := tl _ _ _ hu
            obtain ⟨⟨v, h4, h5⟩, h6⟩ := tl _ _ _ hv
            cases h2
            cases h5
            have p1 : ∀ w, (part f.type us f.offset).run P w = .ok (.bool x) w := fun w => by simp [part, Sem.run_bind, run_isAgg hty, hn2, h1, TypeDesc.isRow]
            have p2 : ∀ w, (part f.type vs f.offset).run P w = .ok (.bool y) w := fun w => by simp [part, Sem.run_bind, run_isAgg hty, hn2, h4, TypeDesc.isRow]
            have ih' := ih _ _ _ _ w hks ht h3 h6
            simp only [Op.eqFields, if_pos hn1, Sem.run_bind, p1, p2, run_equalIn_bool' _ _ _ _ _ hty, Result.andThen_ok]
            cases x <;> cases y <;> simp [ih']
        · cases hf
      · rename_i hty
        split at hf
        · rename_i ks' hks
          cases hf
          obtain ⟨x, l', y, q', t, rfl, rfl, ht, rfl⟩ := eqL_str he
          · obtain ⟨⟨u, h1, h2⟩, h3⟩ := tl _ _ _ hu
            obtain ⟨⟨v, h4, h5⟩, h6⟩ := tl _ _ _ hv
            cases h2
            cases h5
            have p1 : ∀ w, (part f.type us f.offset).run P w = .ok (.string x) w := fun w => by simp [part, Sem.run_bind, run_isAgg hty, hn2, h1, TypeDesc.isRow]
            have p2 : ∀ w, (part f.type vs f.offset).run P w = .ok (.string y) w := fun w => by simp [part, Sem.run_bind, run_isAgg hty, hn2, h4, TypeDesc.isRow]
            have ih' := ih _ _ _ _ w hks ht h3 h6
            simp only [Op.eqFields, if_pos hn1, Sem.run_bind, p1, p2, run_equalIn_string (P := P) _ _ _ _ _ hty, Result.andThen_ok]
            by_cases hxy : x = y
            · subst hxy; simp [ih']
            · have : (x.toList == y.toList) = false := by
                rw [beq_eq_false_iff_ne]
                intro e
                apply hxy
                rw [ByteArray.toList_eq, ByteArray.toList_eq] at e
                exact ByteArray.ext (Array.ext' e)
              simp [hxy, this]
        · cases hf
      · cases hf
    · cases hf
theorem g_eqs {op : BinOp} {neg : Bool} {t : TypeId} {x0 y0 x y : Operand} {ao : AO} (ho : op = .eql ∧ neg = false ∨ op = .neq ∧ neg = true) (hc : compEqs P neg t x y = some ao) {a b : AV} {u v : Value} (h : VR c a u) (h' : VR c b v) :
    ∃ ks, ao = .eqs neg ks x y ∧ Gives P (do eqGuard op t x0 y0 u v; binOp op t u v) c (eqsA neg ks a b) nb := by
  unfold compEqs at hc
  split at hc <;> try (cases hc; done)
  rename_i hg
  obtain ⟨hg1, hg2⟩ := hg
  split at hc <;> try (cases hc; done)
  rename_i fs hu
  split at hc <;> try (cases hc; done)
  rename_i ks hks
  cases hc
  refine ⟨ks, rfl, ?_⟩
  unfold eqsA
  cases a with
  | agg l =>
    cases b with
    | agg q =>
      simp only
      split
      · rename_i r hr
        obtain ⟨us, rfl, h⟩ := h
        obtain ⟨vs, rfl, h'⟩ := h'
        have hfo : P.fieldsOf t = fs := by simp [Program.fieldsOf, hu]
        have key : ∀ w, (Op.equalIn 10000 t (.agg us.toArray) (.agg vs.toArray)).run P w = .ok r w := fun w => by
          rw [run_equalIn_struct w 9999 t _ _ (by rw [hfo]; exact hu) hg1, hfo]
          exact eqL_run (c := c) (d := 9998) hks hr (fun j a hj => by obtain ⟨u, k1, _, k2⟩ := (VRl_iff.1 h).2 j a hj; exact ⟨u, by simpa using k1, k2⟩)
            (fun j a hj => by obtain ⟨u, k1, _, k2⟩ := (VRl_iff.1 h').2 j a hj; exact ⟨u, by simpa using k1, k2⟩)
        refine Gives.pure (v := .bool (r != neg)) ?_ rfl
        rcases ho with ⟨rfl, rfl⟩ | ⟨rfl, rfl⟩
        · rw [Sem.run_bind, run_eqGuard_agg _ _ _ _ _ _ _ hg2, Result.andThen_ok, run_eql_struct, key]; simp
        · rw [Sem.run_bind, run_eqGuard_agg _ _ _ _ _ _ _ hg2, Result.andThen_ok, run_neq_struct, key]; simp
      · exact Gives.fail
    | _ => exact Gives.fail
  | _ => exact Gives.fail
theorem run_equalIn_ptr_nil (w : World) (n : Nat) (t e : TypeId) (a : Option Addr) (h : P.underlying t = some (.pointer e)) : (Op.equalIn (n + 1) t (.pointer a) (.pointer none)).run P w = .ok a.isNone w := by
  cases a <;> simp [Op.equalIn, run_underlying h]
theorem run_equal_ptr_nil (w : World) (t e : TypeId) (a : Option Addr) (h : P.underlying t = some (.pointer e)) : (Op.equal t (.pointer a) (.pointer none)).run P w = .ok a.isNone w := run_equalIn_ptr_nil w 9999 t e a h
theorem run_equalIn_if_nil (w : World) (n : Nat) (t : TypeId) (ms : Array (String × TypeId)) (h : P.underlying t = some (.interface ms)) : (Op.equalIn (n + 1) t .nilIface .nilIface).run P w = .ok true w := by simp [Op.equalIn, run_underlying h]
theorem run_equal_if_nil (w : World) (t : TypeId) (ms : Array (String × TypeId)) (h : P.underlying t = some (.interface ms)) : (Op.equal t .nilIface .nilIface).run P w = .ok true w := run_equalIn_if_nil w 9999 t ms h
theorem run_equalIn_if_some (w : World) (n : Nat) (t u : TypeId) (v : Value) (ms : Array (String × TypeId)) (h : P.underlying t = some (.interface ms)) : (Op.equalIn (n + 1) t (.iface u v) .nilIface).run P w = .ok false w := by simp [Op.equalIn, run_underlying h]
theorem run_equal_if_some (w : World) (t u : TypeId) (v : Value) (ms : Array (String × TypeId)) (h : P.underlying t = some (.interface ms)) : (Op.equal t (.iface u v) .nilIface).run P w = .ok false w := run_equalIn_if_some w 9999 t u v ms h
theorem g_isnil {op : BinOp} {neg : Bool} (ho : op = .eql ∧ neg = false ∨ op = .neq ∧ neg = true) {t : TypeId} {v : Value} (hd : ((∃ e, P.underlying t = some (.slice e)) ∧ v = .slice none 0 0) ∨ (∃ e, P.underlying t = some (.pointer e)) ∧ v = .pointer none ∨ (∃ e, P.underlying t = some (.interface e)) ∧ v = .nilIface)
    {x y : Operand} {a : AV} {u : Value} (hy : y = .const v) (h : VR c a u) :
    Gives P (do eqGuard op t x y u v; binOp op t u v) c (isnilA neg v a) nb := by
  have sl : ∀ (A : Option Addr) (n k : Nat), (∃ e, P.underlying t = some (.slice e)) → (do eqGuard op t x y (.slice A n k) (.slice none 0 0); binOp op t (.slice A n k) (.slice none 0 0) : Sem Value).run P c.w = .ok (.bool (A.isNone != neg)) c.w := by
    rintro A n k ⟨e, he⟩
    have := run_equal_slice_nil (P := P) c.w t e A n k he
    rcases ho with ⟨rfl, rfl⟩ | ⟨rfl, rfl⟩ <;> simp [eqGuard, binOp, this]
  have pt : ∀ (A : Option Addr), (∃ e, P.underlying t = some (.pointer e)) → (do eqGuard op t x y (.pointer A) (.pointer none); binOp op t (.pointer A) (.pointer none) : Sem Value).run P c.w = .ok (.bool (A.isNone != neg)) c.w := by
    rintro A ⟨e, he⟩
    have := run_equal_ptr_nil (P := P) c.w t e A he
    rcases ho with ⟨rfl, rfl⟩ | ⟨rfl, rfl⟩ <;> cases A <;> simp [eqGuard, binOp, this]
  rcases hd with ⟨hd, rfl⟩ | ⟨hd, rfl⟩ | ⟨hd, rfl⟩
  · cases a with
    | v a =>
      have e1 : u = a := h
      subst e1
      cases u with
      | slice A n k => cases A with
        | none => exact Gives.pure (v := .bool (!neg)) (by simpa using sl none n k hd) rfl
        | some A => exact Gives.pure (v := .bool neg) (by simpa using sl (some A) n k hd) rfl
      | _ => exact Gives.fail
    | fs fr cs n =>
      simp only [isnilA]
      split
      · exact Gives.fail
      · rename_i h0
        obtain ⟨A, k, rfl, _, hm⟩ := h
        obtain ⟨b, off, rfl, _⟩ := hm h0
        exact Gives.pure (v := .bool neg) (by simpa using sl (some ⟨b, off, none⟩) n k hd) rfl
    | os id off n sz =>
      simp only [isnilA]
      split
      · exact Gives.fail
      · rename_i h0
        obtain ⟨A, k, rfl, hk, hm⟩ := h
        rcases hm with ⟨_, h1⟩ | ⟨b, _, rfl, _⟩
        · omega
        · exact Gives.pure (v := .bool neg) (by simpa using sl (some ⟨b, off, none⟩) n k hd) rfl
    | _ => exact Gives.fail
  · cases a with
    | v a =>
      have e1 : u = a := h
      subst e1
      cases u with
      | pointer A => cases A with
        | none => exact Gives.pure (v := .bool (!neg)) (by simpa using pt none hd) rfl
        | some A => exact Gives.fail
      | _ => exact Gives.fail
    | op id off => obtain ⟨b, _, rfl, _⟩ := h; exact Gives.pure (v := .bool neg) (by simpa using pt (some ⟨b, off, none⟩) hd) rfl
    | fp fr cs off => obtain ⟨b, o, rfl, _⟩ := h; exact Gives.pure (v := .bool neg) (by simpa using pt (some ⟨b, o + off, none⟩) hd) rfl
    | _ => exact Gives.fail
  · obtain ⟨ms, hu⟩ := hd
    cases a with
    | v a =>
      have e1 : u = a := h
      subst e1
      cases u with
      | nilIface =>
        refine Gives.pure (v := .bool (!neg)) ?_ rfl
        have hq := run_equal_if_nil (P := P) c.w t ms hu
        rcases ho with ⟨rfl, rfl⟩ | ⟨rfl, rfl⟩ <;> simp [eqGuard, binOp, hq, hy]
      | _ => exact Gives.fail
    | ifc tx x =>
      obtain ⟨q, rfl, _⟩ := h
      refine Gives.pure (v := .bool neg) ?_ rfl
      have hq := run_equal_if_some (P := P) c.w t tx q ms hu
      rcases ho with ⟨rfl, rfl⟩ | ⟨rfl, rfl⟩ <;> simp [eqGuard, binOp, hq]
    | _ => exact Gives.fail
theorem g_un {op : UnOp} {a : AV} {u : Value} (h : VR c a u) : Gives P (Op.unary op u) c (unA op a) nb := by
  cases a with
  | v a =>
    have e1 : u = a := h
    subst e1
    simp only [unA]
    split
    · rename_i r hr
      refine Gives.pure (v := r) ?_ rfl
      cases u <;> cases op <;> simp [unVal] at hr <;> subst hr <;> simp [Op.unary, Op.intArith, Op.intBits]
    · exact Gives.fail
  | wv k =>
    cases k with
    | bl =>
      simp only [unA]
      split
      · rename_i hh
        obtain ⟨q, rfl⟩ := h
        cases op <;> simp [isNot] at hh
        exact Gives.pure (v := .bool (!q)) (by simp [Op.unary]) ⟨_, rfl⟩
      · exact Gives.fail
    | _ => exact Gives.fail
  | _ => exact Gives.fail
theorem g_conv {s d : TypeId} {k k' : IntKind} (hs : P.underlying s = some (.int k')) (hd : P.underlying d = some (.int k)) {a : AV} {u : Value} (h : VR c a u) : Gives P (convert s d u) c (convA k a) nb := by
  cases a with
  | v a =>
    have e1 : u = a := h
    subst e1
    cases u with
    | int k'' n => exact Gives.pure (v := .int k (k.wrap n)) (by simp [convert, run_underlying hs, run_underlying hd, Conv.intToInt]) rfl
    | _ => exact Gives.fail
  | _ => exact Gives.fail
theorem g_len {t ty : TypeId} {e : TypeId} (hu : P.underlying t = some (.slice e)) {a : AV} {u : Value} (h : VR c a u) : Gives P (Builtin.len_ #[t] ty #[u]) c (lenA a) nb := by
  cases a with
  | v a =>
    have e1 : u = a := h
    subst e1
    cases u with
    | slice A n k => exact Gives.pure (v := .int .i64 n) (by simp [Builtin.len_, run_underlying hu, goInt]) rfl
    | _ => exact Gives.fail
  | fs fr cs n => obtain ⟨A, k, rfl, _⟩ := h; exact Gives.pure (v := .int .i64 n) (by simp [Builtin.len_, run_underlying hu, goInt]) rfl
  | os id off n sz => obtain ⟨A, k, rfl, _⟩ := h; exact Gives.pure (v := .int .i64 n) (by simp [Builtin.len_, run_underlying hu, goInt]) rfl
  | ws q n => obtain ⟨A, k, rfl, _⟩ := h; exact Gives.pure (v := .int .i64 n) (by simp [Builtin.len_, run_underlying hu, goInt]) rfl
  | _ => exact Gives.fail
theorem g_slen {t ty : TypeId} (hu : P.underlying t = some .string) {a : AV} {u : Value} (h : VR c a u) : Gives P (Builtin.len_ #[t] ty #[u]) c (slenA a) nb := by
  cases a with
  | v a =>
    have e1 : u = a := h
    subst e1
    cases u with
    | string s => exact Gives.pure (v := .int .i64 s.size) (by simp [Builtin.len_, run_underlying hu, goInt]) rfl
    | _ => exact Gives.fail
  | _ => exact Gives.fail
theorem g_ext {i : Nat} {a : AV} {u : Value} (h : VR c a u) : Gives P (Instr.extract u i) c (extA i a) nb := by
  cases a with
  | tup l =>
    obtain ⟨us, rfl, hl⟩ := h
    simp only [extA]
    split
    · rename_i a ha
      obtain ⟨u, e1, e2⟩ := (VRt_iff.1 hl).2 _ _ ha
      exact Gives.pure (v := u) (by simp [Instr.extract, e1]) e2
    · exact Gives.fail
  | _ => exact Gives.fail

/-- What a run of a whole operation leaves. -/
def GivesN (P : Program) (s : Sem Next) (c : Cx) (am : AM) (nb : Nat) : Prop :=
  ∀ r R W, am.run c.σ = some (r, R, W) → HR c → (∀ id, nb ≤ id → c.φ id = none ∨ nb + 100000 ≤ id) → ∃ nx v d, s.run P c.w = .ok nx d.w ∧ (nx = .value v ∨ nx = .skip ∧ v = undef) ∧ VR d r v ∧ Then c nb W d
theorem GivesN.of {s : Sem Value} {am : AM} (h : Gives P s c am nb) : GivesN P (do pure (.value (← s))) c am nb := by
  intro r R W hr hh hn
  obtain ⟨v, d, h1, h2, h3⟩ := h r R W hr hh hn
  exact ⟨.value v, v, d, by simp [h1], .inl rfl, h2, h3⟩
theorem GivesN.skip {s : Sem Unit} {am : AM} (h : Gives P (do s; pure undef) c am nb) : GivesN P (do s; pure .skip) c am nb := by
  intro r R W hr hh hn
  obtain ⟨v, d, h1, h2, h3⟩ := h r R W hr hh hn
  simp only [Sem.run_bind, Sem.run_pure] at h1
  cases hs : s.run P c.w with
  | ok a w' =>
    rw [hs] at h1
    simp at h1
    obtain ⟨rfl, e⟩ := h1
    exact ⟨.skip, undef, d, by simp [hs, e], .inr ⟨rfl, rfl⟩, h2, h3⟩
  | halt q w' => rw [hs] at h1; simp at h1
theorem GivesN.fail {s : Sem Next} : GivesN P s c .fail nb := fun _ _ _ h => by cases h
theorem GivesN.value {s : Sem Next} {v : Value} {r : AV} (hs : ∀ w, s.run P w = .ok (.value v) w) (hv : VR c r v) : GivesN P s c (.ret r []) nb := by
  intro r' R W h hr _
  simp [AM.run] at h
  obtain ⟨rfl, rfl, rfl⟩ := h
  exact ⟨.value v, v, c, hs _, .inl rfl, hv, Then.refl hr nb⟩
theorem VRt_map {ρ : Operand → AV} {ev : Operand → Value} (hv : ∀ x, VR c (ρ x) (ev x)) : ∀ l : List Operand, VRt c (l.map ρ) (l.map ev)
  | [] => rfl
  | x :: l => ⟨ev x, l.map ev, rfl, hv x, VRt_map hv l⟩
theorem opt_map {ρ : Operand → AV} {ev : Operand → Value} (hv : ∀ x, VR c (ρ x) (ev x)) (o : Option Operand) : (∀ a, o.map ρ = some a → ∃ u, o.map ev = some u ∧ VR c a u) ∧ (o.map ρ = none → o.map ev = none) := by
  cases o with
  | none => simp
  | some x => exact ⟨fun a h => by simp at h; subst h; exact ⟨_, rfl, hv x⟩, fun h => by simp at h⟩
theorem isNilC_spec {d : TypeDesc} {y : Operand} {z : Value} (h : isNilC d y = some z) : y = .const z ∧ ((∃ e, d = .slice e) ∧ z = .slice none 0 0 ∨ (∃ e, d = .pointer e) ∧ z = .pointer none ∨ (∃ e, d = .interface e) ∧ z = .nilIface) := by
  unfold isNilC at h
  split at h <;> simp_all
end Go.Proofs.YtonglhkiobibgaaGreatDoor
namespace Go.Proofs.YtonglhkiobibgaaGreatDoor
open Go.RowKit
variable {P : Program} {c : Cx} {nb : Nat}
/-- a row's marks change; it is held no more -/
theorem Then.melt {c : Cx} (h : HR c) (nb : Nat) {id b : Nat} {y : Bool} {e : TypeId} {cells : List AV} {cs : Array Value} (hid : c.σ id = some (.row y e cells)) (hφ : c.φ id = some (some b))
    (hb : c.w.heap[b]? = some (.cells cs e (0, 0))) {w' : World} {f : Nat × Nat} (w1 : w'.heap[b]? = some (.cells cs e f)) (w2 : ∀ k, k ≠ b → w'.heap[k]? = c.w.heap[k]?) (w3 : w'.heap.size = c.w.heap.size)
    (w4 : w'.output = c.w.output) (w5 : w'.os = c.w.os) (w6 : w'.tape = c.w.tape) : Then c nb [(id, none)] ⟨w', c.B, c.φ, app c.σ [(id, none)], c.X, c.Y⟩ := by
  generalize hd : (⟨w', c.B, c.φ, app c.σ [(id, none)], c.X, c.Y⟩ : Cx) = d
  have dw : d.w = w' := by rw [← hd]
  have dφ : d.φ = c.φ := by rw [← hd]
  have dσ : ∀ k, d.σ k = if k = id then none else c.σ k := by rw [← hd]; intro k; rfl
  have dB : d.B = c.B := by rw [← hd]
  have dX : d.X = c.X := by rw [← hd]
  have dY : d.Y = c.Y := by rw [← hd]
  have hT : c.T b := ⟨id, _, hid, hφ⟩
  have g : Grow c d := by
    refine Still.grow ⟨dY, dX, dB, by rw [dw, w4], by rw [dw, w5], by rw [dw, w6], by rw [dw, w3]; exact Nat.le_refl _, fun k hk ht => by rw [dw]; exact w2 k (fun e1 => ht (by rw [e1]; exact hT)), ?_, fun k cs' e' f' hk => ?_⟩
    · rintro k ⟨i, ob, h1, h2⟩
      rw [dσ] at h1
      rw [dφ] at h2
      by_cases e1 : i = id
      · rw [if_pos e1] at h1; cases h1
      · rw [if_neg e1] at h1; exact .inl ⟨i, ob, h1, h2⟩
    · by_cases e1 : k = b
      · subst e1
        rw [hb] at hk
        cases hk
        exact ⟨_, _, by rw [dw]; exact w1, rfl⟩
      · exact ⟨cs', f', by rw [dw, w2 k e1]; exact hk, rfl⟩
  have n : Names c d := fun k x hk => by rw [dφ]; exact hk
  have live : ∀ k, d.σ k ≠ none → c.σ k ≠ none := fun k hk => by
    rw [dσ] at hk
    by_cases e1 : k = id
    · rw [e1, hid]; simp
    · rwa [if_neg e1] at hk
  refine ⟨g, n, ⟨fun k y' e' cl h1 => ?_, fun i i' b' h1 h2 h3 h4 => ?_, by rw [dB]; exact Nat.le_trans h.base g.size, fun b hb => by rw [dX] at hb; exact Nat.lt_of_lt_of_le (h.xlt b hb) g.size, h.gl.grow g⟩, by rw [← hd], fun k hk => by rw [dφ] at hk; exact .inl hk⟩
  · rw [dσ] at h1
    by_cases e1 : k = id
    · rw [if_pos e1] at h1; cases h1
    · rw [if_neg e1] at h1
      rcases h.row k y' e' cl h1 with ⟨h2, h3⟩ | ⟨b2, cs2, h2, h3, h4, h5, h6⟩
      · exact .inl ⟨n _ _ h2, h3⟩
      · have hne : b2 ≠ b := fun e2 => e1 (h.inj k id b (by rw [h1]; simp) (by rw [hid]; simp) (by rw [← e2]; exact h2) hφ)
        refine .inr ⟨b2, cs2, n _ _ h2, h3.of (by rw [dw, w2 b2 hne]), ⟨fun hy => by rw [dB]; exact h4.1 hy, by rw [dX]; exact h4.2⟩, h5, fun j a hj => ?_⟩
        obtain ⟨u, h7, h8, h9⟩ := h6 j a hj
        exact ⟨u, h7, h8, h9.mono g n⟩
  · rw [dφ] at h3 h4
    exact h.inj i i' b' (live i h1) (live i' h2) h3 h4
theorem run_rd {σ : Heap} {id : Nat} {k : AObj → AM} {r : AV} {R : List Nat} {W : List (Nat × Option AObj)} (h : (AM.rd id k).run σ = some (r, R, W)) : ∃ o R', σ id = some o ∧ (k o).run σ = some (r, R', W) := by
  rw [AM.run] at h
  split at h
  · rename_i o ho
    revert h
    cases hk : (k o).run σ with
    | none => intro h; simp at h
    | some q => obtain ⟨r', R', W'⟩ := q; intro h; simp at h; exact ⟨o, R', ho, by rw [hk, h.1, h.2.2]⟩
  · cases h
theorem g_sconv {s e : TypeId} (hs : P.underlying s = some (.slice e)) (he : P.underlying e = some (.int .u8)) {a : AV} {u : Value} (h : VR c a u) : Gives P (convert s s u) c (sconvA a) nb := by
  cases a with
  | os id off n sz =>
    intro r R W hrun hr hfr
    rw [VR] at h
    obtain ⟨A, k, rfl, hk, hc⟩ := h
    obtain ⟨⟨y, e', cells⟩, R', hs0, hrun2⟩ := run_rd hrun
    · change AM.run c.σ (if (off = 0 ∧ sz = 1) ∧ 0 < n ∧ cells.length = n then AM.ret (AV.fs y cells n) [(id, none)] else AM.fail) = _ at hrun2
      split at hrun2
      · rename_i hcond
        obtain ⟨⟨rfl, rfl⟩, hn, hl⟩ := hcond
        simp [AM.run] at hrun2
        obtain ⟨rfl, rfl, rfl⟩ := hrun2
        rcases hc with ⟨_, h2⟩ | ⟨b, h1, rfl, cs0, e0, f0, h3, h4⟩
        · omega
        · rcases hr.row id y e' cells hs0 with ⟨h5, _⟩ | ⟨b2, cs, h5, h6, h7, h8, h9⟩
          · rw [h1] at h5; cases h5
          · rw [h1] at h5; cases h5
            replace h6 := h6.cells ⟨_, _, _, h3⟩
            have hlt : b < c.w.heap.size := (Array.getElem?_eq_some_iff.1 h6).1
            have w1 : (c.w.freeze ⟨b, cs.size, none⟩ 1).heap[b]? = some (.cells cs e' (cs.size, cs.size + 1)) := by
              simp [World.freeze, Array.getElem?_modify, h6]
            have w2 : ∀ k, k ≠ b → (c.w.freeze ⟨b, cs.size, none⟩ 1).heap[k]? = c.w.heap[k]? := by
              intro k hk
              simp [World.freeze, Array.getElem?_modify, Ne.symm hk]
            have T := Then.melt hr nb hs0 h1 h6 w1 w2 (by simp [World.freeze]) (by simp [World.freeze]) (by simp [World.freeze]) (by simp [World.freeze])
            refine ⟨.slice (some ⟨b, 0, none⟩) n k, _, ?_, ?_, T⟩
            · have hsh : (shape b).run P c.w = .ok (some (e', cs.size)) c.w := by show Result.ok (c.w.shape? b) c.w = _; simp [World.shape?, h6]
              simp [convert, run_underlying hs, run_underlying he, markStringish, hsh]
            · rw [VR]
              refine ⟨_, _, rfl, hk, fun _ => ⟨b, 0, rfl, (Array.getElem?_eq_some_iff.1 w1).1, ⟨h7.1, ?_, h7.2⟩, ?_⟩⟩
              · rintro ⟨i, ob, k1, k2⟩
                by_cases e1 : i = id
                · subst e1; simp [app] at k1
                · have k1' : c.σ i = some ob := by simpa [app, e1] using k1
                  exact e1 (hr.inj i id b (by rw [k1']; simp) (by rw [hs0]; simp) k2 h1)
              · rw [VRm_iff]
                intro j a hj
                obtain ⟨u, k1, k2, k3⟩ := h9 j a hj
                exact ⟨u, by rw [Nat.zero_add]; simp [World.cell?, w1, k1], k2, VR.mono T.grow T.names k3⟩
      · cases hrun2
  | _ => exact Gives.fail
theorem bytesOf_ok {cs : List AV} {l : List Int} (h : bytesOf cs = some l) : cs = l.map fun x => .v (.int .u8 x) := by
  induction cs generalizing l with
  | nil => simp [bytesOf] at h; subst h; rfl
  | cons a r ih =>
    unfold bytesOf at h
    split at h
    · rename_i e; cases e
    · rename_i x r' e
      cases e
      split at h
      · rename_i l' hl; cases h; rw [ih hl]; rfl
      · cases h
    · cases h
theorem g_b2sOf {cs : List AV} {A : Option Addr} {k : Nat} {s d e : TypeId} (hs : P.underlying s = some (.slice e)) (he : P.underlying e = some (.int .u8)) (hd : P.underlying d = some .string)
    (hc : 0 < cs.length → ∃ b off, A = some ⟨b, off, none⟩ ∧ ∀ (j : Nat) a, cs[j]? = some a → ∃ u, c.w.cell? ⟨b, off + j, none⟩ = some u ∧ VR c a u) : Gives P (convert s d (.slice A cs.length k)) c (b2sOf cs) nb := by
  unfold b2sOf
  split
  · rename_i l hl
    have e1 := bytesOf_ok hl
    refine Gives.pure ?_ rfl
    rw [run_convert_bytes_string c.w s d e _ _ _ hs he hd]
    cases A with
    | none =>
      have : l = [] := by
        cases l with
        | nil => rfl
        | cons x l => obtain ⟨b, off, h1, _⟩ := hc (by rw [e1]; simp); cases h1
      subst this
      simp [Conv.bytesToString, strOf]
    | some a =>
      refine run_bytesToString c.w a _ _ l ?_
      have hlen : cs.length = (l.map (Value.int .u8)).length := by rw [e1]; simp
      rw [hlen]
      refine run_loadCells_list (w := c.w) (P := P) a _ fun j v hj => ?_
      obtain ⟨x, hx, rfl⟩ : ∃ x, l[j]? = some x ∧ Value.int .u8 x = v := by simpa using hj
      obtain ⟨b, off, h1, h2⟩ := hc (by rw [e1]; simp; have := (List.getElem?_eq_some_iff.1 hx).1; omega)
      cases h1
      obtain ⟨u, h3, h4⟩ := h2 j (.v (.int .u8 x)) (by rw [e1]; simp [hx])
      rw [VR] at h4
      rw [← h4]
      by_cases hj0 : j = 0
      · subst hj0; simpa [Addr.add] using h3
      · simpa [Addr.add, hj0] using h3
  · exact Gives.fail
theorem g_b2s {s d e : TypeId} (hs : P.underlying s = some (.slice e)) (he : P.underlying e = some (.int .u8)) (hd : P.underlying d = some .string) {a : AV} {u : Value} (h : VR c a u) : Gives P (convert s d u) c (b2sA a) nb := by
  cases a with
  | v a =>
    have e1 : u = a := h
    subst e1
    unfold b2sA
    split
    · rename_i n k e1
      cases e1
      exact Gives.pure (v := .string .empty) (by rw [run_convert_bytes_string c.w s d e _ _ _ hs he hd]; simp [Conv.bytesToString]) rfl
    · rename_i e1; cases e1
    · rename_i e1; cases e1
    · exact Gives.fail
  | fs fr cs n =>
    rw [VR] at h
    obtain ⟨A, k, rfl, hk, hc⟩ := h
    simp only [b2sA]
    split
    · rename_i hl
      subst hl
      refine g_b2sOf hs he hd fun hn => ?_
      obtain ⟨b, off, rfl, _, _, hm⟩ := hc (by omega)
      rw [VRm_iff] at hm
      exact ⟨b, off, rfl, fun j a hj => by obtain ⟨u, k1, _, k3⟩ := hm j a hj; exact ⟨u, k1, k3⟩⟩
    · exact Gives.fail
  | os id off n sz =>
    rw [VR] at h
    obtain ⟨A, k, rfl, hk, hc⟩ := h
    intro r R W hrun hr hfr
    obtain ⟨⟨y, e', cells⟩, R', hs0, hrun2⟩ := run_rd hrun
    · change AM.run c.σ (if sz = 1 ∧ ((cells.drop off).take n).length = n then b2sOf ((cells.drop off).take n) else .fail) = _ at hrun2
      split at hrun2
      · rename_i hcond
        obtain ⟨rfl, hl⟩ := hcond
        have G := g_b2sOf (c := c) (nb := nb) (A := A) (k := k) (cs := (cells.drop off).take n) hs he hd fun hn => by
          rcases hc with ⟨_, h2⟩ | ⟨b, h1, rfl, cs0, e0, f0, h3, h4⟩
          · omega
          · refine ⟨b, off, rfl, fun j a hj => ?_⟩
            rcases hr.row id y e' cells hs0 with ⟨h5, _⟩ | ⟨b2, cs, h5, h6, h7, h8, h9⟩
            · rw [h1] at h5; cases h5
            · rw [h1] at h5; cases h5
              replace h6 := h6.cells ⟨_, _, _, h3⟩
              rw [List.getElem?_take] at hj
              split at hj
              · rw [List.getElem?_drop] at hj
                obtain ⟨u, k1, k2, k3⟩ := h9 _ a hj
                exact ⟨u, by simp [World.cell?, h6, k1], k3⟩
              · cases hj
        rw [hl] at G
        exact G r R' W hrun2 hr hfr
      · cases hrun2
  | _ => exact Gives.fail
theorem compMM_spec {mx : Bool} {l : List Operand} {ao : AO} (h : compMM mx l = some ao) : ∃ x y, l = [x, y] ∧ ao = .mm mx x y := by
  unfold compMM at h
  split at h
  · cases h; exact ⟨_, _, rfl, rfl⟩
  · cases h
theorem compBi_spec {b : Builtin} {l : List Operand} {ao : AO} (h : compBi b l = some ao) : ∃ x y, l = [x, y] ∧ ((b = .min ∧ ao = .mm false x y) ∨ (b = .max ∧ ao = .mm true x y)) := by
  unfold compBi at h
  split at h
  · obtain ⟨x, y, h1, h2⟩ := compMM_spec h; exact ⟨x, y, h1, .inl ⟨rfl, h2⟩⟩
  · obtain ⟨x, y, h1, h2⟩ := compMM_spec h; exact ⟨x, y, h1, .inr ⟨rfl, h2⟩⟩
  · cases h
theorem g_mm {ats : Array TypeId} {ty : TypeId} {mx : Bool} {a b : AV} {u v : Value} (h : VR c a u) (h2 : VR c b v) : Gives P (if mx = true then Builtin.max_ ats ty #[u, v] else Builtin.min_ ats ty #[u, v]) c (mmA mx a b) nb := by
  cases a with
  | v a =>
    have e1 : u = a := h
    subst e1
    cases u with
    | int k x => cases b with
      | v b =>
        have e2 : v = b := h2
        subst e2
        cases v with
        | int k2 y =>
          refine Gives.pure (v := .int k (if mx = true then (if x < y then y else x) else (if y < x then y else x))) ?_ rfl
          cases mx <;> simp [Builtin.max_, Builtin.min_, Builtin.max2, Builtin.min2]
        | _ => exact Gives.fail
      | _ => exact Gives.fail
    | _ => exact Gives.fail
  | _ => exact Gives.fail
end Go.Proofs.YtonglhkiobibgaaGreatDoor
namespace Go.Proofs.YtonglhkiobibgaaGreatDoor
open Go.RowKit
variable {P : Program} {c : Cx} {nb : Nat}
theorem g_mkif {t : TypeId} {d : TypeDesc} (hu : P.underlying t = some d) (hd : ∀ ms, d ≠ .interface ms) {a : AV} {u : Value} (h : VR c a u) : Gives P (Instr.makeInterface t u) c (.ret (.ifc t a) []) nb := by
  refine Gives.pure (v := .iface t u) ?_ ⟨u, rfl, h⟩
  simp only [Instr.makeInterface, Sem.run_bind, run_underlying hu, Result.andThen_ok]
  cases d <;> first | (exact absurd rfl (hd _)) | simp
theorem g_aidx {t e : TypeId} {j : TypeInfo} {n : Nat} (hu : P.underlying t = some (.array n e)) (hj : P.info? e = some j) {a x : AV} {u v : Value} (h : VR c a u) (hx : VR c x v) :
    Gives P (Instr.indexAt t u v) c (aidxA j.size n a x) nb := by
  cases x with
  | v x =>
    have e0 : v = x := hx
    subst e0
    cases v with
    | int k i =>
      cases a with
      | fp fr cs off =>
        simp only [aidxA]
        split
        · rename_i hh
          obtain ⟨b, o, rfl, h1, h2, h3⟩ := h
          exact Gives.pure (v := .pointer (some ⟨b, o + (off + i.toNat * j.size), none⟩)) (by simp [Instr.indexAt, asIntOf, Instr.sureAddr, run_underlying hu, hh, sizeOf, typeInfo, hj, Addr.add_mid, Nat.add_assoc]) ⟨b, o, rfl, h1, h2, h3⟩
        · exact Gives.fail
      | op id off =>
        simp only [aidxA]
        split
        · rename_i hh
          obtain ⟨b, h1, rfl, hcl⟩ := h
          exact Gives.pure (v := .pointer (some ⟨b, off + i.toNat * j.size, none⟩)) (by simp [Instr.indexAt, asIntOf, Instr.sureAddr, run_underlying hu, hh, sizeOf, typeInfo, hj, Addr.add_mid]) ⟨b, h1, rfl, hcl⟩
        · exact Gives.fail
      | _ => exact Gives.fail
    | _ => exact Gives.fail
  | _ => exact Gives.fail
theorem g_cap {t ty e : TypeId} (hu : P.underlying t = some (.slice e)) {a : AV} {u : Value} (h : VR c a u) : Gives P (Builtin.cap_ #[t] ty #[u]) c (capA a) nb := by
  cases a with
  | v a =>
    have e1 : u = a := h
    subst e1
    cases u with
    | slice A n k => exact Gives.pure (v := .int .i64 k) (by simp [Builtin.cap_, run_underlying hu, goInt]) rfl
    | _ => exact Gives.fail
  | _ => exact Gives.fail
theorem g_sidx {t : TypeId} (hu : P.underlying t = some .string) {a x : AV} {u v : Value} (h : VR c a u) (hx : VR c x v) : Gives P (Instr.index t u v) c (sidxA a x) nb := by
  cases a with
  | v a =>
    have e1 : u = a := h
    subst e1
    cases u with
    | string s =>
      cases x with
      | v x =>
        have e0 : v = x := hx
        subst e0
        cases v with
        | int k i =>
          simp only [sidxA]
          split
          · rename_i h0
            split
            · rename_i b hb
              exact Gives.pure (v := .int .u8 b.toNat) (by simp [Instr.index, asIntOf, run_underlying hu, h0, hb]) rfl
            · exact Gives.fail
          · exact Gives.fail
        | _ => exact Gives.fail
      | _ => exact Gives.fail
    | _ => exact Gives.fail
  | _ => exact Gives.fail
theorem g_slice0 {t e : TypeId} (hneM : e ≠ MAPE) {j : TypeInfo} (hu : P.underlying t = some (.slice e)) (hj : P.info? e = some j) {a : AV} {u : Value} (h : VR c a u) :
    Gives P (Instr.sliceAt t u none (some (.int .i64 0)) (some (.int .i64 0))) c (slice0A nb e j.size a) nb := by
  have hrun : ∀ A n k w, ∃ A', (Instr.sliceAt t (.slice A n k) none (some (.int .i64 0)) (some (.int .i64 0))).run P w = .ok (.slice A' 0 0) w ∧ (A = none → A' = none) := by
    intro A n k w
    refine ⟨if 0 = 0 then A else A.map (·.add (0 * j.size)), ?_, fun h => by simp [h]⟩
    simp [Instr.sliceAt, Instr.slice, run_underlying hu, Instr.sliceBounds, Instr.sliceBound, asIntOf, sizeOf, typeInfo, hj]
  have go : ∀ A n k, Gives P (Instr.sliceAt t (.slice A n k) none (some (.int .i64 0)) (some (.int .i64 0))) c (.ret (.os nb 0 0 j.size) [(nb, some (.row true e []))]) nb := by
    intro A n k r R W hr hh hn
    simp [AM.run] at hr
    obtain ⟨rfl, rfl, rfl⟩ := hr
    have hn1 := (hn nb (Nat.le_refl _)).resolve_right (by omega)
    obtain ⟨A', h1, _⟩ := hrun A n k c.w
    exact mkG (Then.virtual hh hn1 true e hneM) ⟨A', 0, rfl, Nat.le_refl _, .inl ⟨by simp [Cx.put], rfl⟩⟩ h1
  cases a with
  | fs fr cs n => obtain ⟨A, k, rfl, _⟩ := h; exact go A n k
  | os id off n sz => obtain ⟨A, k, rfl, _⟩ := h; exact go A n k
  | v x =>
    have e0 : u = x := h
    subst e0
    unfold slice0A
    split
    · rename_i h0; cases h0
    · rename_i h0; cases h0
    · rename_i h0
      cases h0
      obtain ⟨A', h1, h2⟩ := hrun none 0 0 c.w
      rw [h2 rfl] at h1
      exact Gives.pure h1 rfl
    · exact Gives.fail
  | _ => exact Gives.fail
/-- what is read of a source: any part of it -/
structure Src2 (P : Program) (v : Value) (m : Nat) (news : List Value) (w : World) : Prop where
  from_ : ∃ A k, v = .slice A m k ∧ (m ≠ 0 → ∃ a, A = some a ∧ ∀ (j : Nat) u, news[j]? = some u → w.cell? (a.add j) = some u)
  len : news.length = m
  one : ∀ u ∈ news, u.oneCell' = true
theorem g_src2 {b : AV} {v : Value} (h : VR c b v) {s : Sem Value} {k : Nat → List AV → AM}
    (hs : HR c → ∀ m l news, Src2 P v m news c.w → VRl c l news → Gives P s c (k m l) nb) : Gives P s c (srcA 1 b k) nb := by
  cases b with
  | v x =>
    have e : v = x := h
    subst e
    unfold srcA
    split
    · rename_i h0; cases h0
    · rename_i h0; cases h0
    · rename_i k' h0
      cases h0
      intro r R W hr hh hn
      exact hs hh 0 [] [] ⟨⟨_, k', rfl, fun h => absurd rfl h⟩, rfl, fun _ h => by cases h⟩ rfl r R W hr hh hn
    · exact Gives.fail
  | fs fr cs m =>
    unfold srcA
    simp only
    split
    · rename_i hl
      obtain ⟨A, k', rfl, hk', hm⟩ := h
      intro r R W hr hh hn
      by_cases h0 : m = 0
      · subst h0
        have : cs = [] := List.eq_nil_of_length_eq_zero (by simpa using hl)
        subst this
        exact hs hh 0 [] [] ⟨⟨A, k', rfl, fun h => absurd rfl h⟩, rfl, fun _ h => by cases h⟩ rfl r R W hr hh hn
      · obtain ⟨b, off, rfl, _, _, hm⟩ := hm h0
        obtain ⟨us, e1, e2, e3⟩ := range_list (VRm_iff.1 hm)
        exact hs hh m cs us ⟨⟨_, k', rfl, fun _ => ⟨_, rfl, fun j u hu => by rw [Addr.add_mid]; exact e2 j u hu⟩⟩, by omega, VRl_one e3⟩ e3 r R W hr hh hn
    · exact Gives.fail
  | os id off m sz' =>
    obtain ⟨A, k', rfl, hk', hm⟩ := h
    refine Gives.look fun hr o ho => ?_
    obtain ⟨y, e, cells⟩ := o
    simp only
    split
    · rename_i hl
      obtain ⟨rfl, hl⟩ := hl
      by_cases h0 : m = 0
      · subst h0
        have : (cells.drop off).take (0 * 1) = [] := by simp
        rw [this]
        exact hs hr 0 [] [] ⟨⟨A, k', rfl, fun h => absurd rfl h⟩, rfl, fun _ h => by cases h⟩ rfl
      · rcases hm with ⟨_, h1⟩ | ⟨b, hφ, rfl, cs9, e9, f9, h9, _⟩
        · omega
        · obtain ⟨cs, _, _, _, hm⟩ := hr.cells ho hφ ⟨_, _, _, h9⟩
          obtain ⟨us, e1, e2, e3⟩ := range_list (c := c) (b := b) (off := off) (l := (cells.drop off).take (m * 1)) (fun j a hj => by
            rw [List.getElem?_take] at hj
            split at hj
            · rw [List.getElem?_drop] at hj
              have := hm _ _ hj
              rwa [Nat.zero_add] at this
            · cases hj)
          exact hs hr m _ us ⟨⟨_, k', rfl, fun _ => ⟨_, rfl, fun j u hu => by rw [Addr.add_mid]; exact e2 j u hu⟩⟩, by omega, VRl_one e3⟩ e3
    · exact Gives.fail
  | _ => exact Gives.fail
theorem g_copy {t tx ty e : TypeId} {i : TypeInfo} (ht : P.underlying t = some (.slice e)) (hi : P.info? e = some i) (h1 : i.size = 1) {a : AV} {u v : Value} (h : VR c a u)
    {m : Nat} {l : List AV} {news : List Value} (hs : Src2 P v m news c.w) (hl : VRl c l news) :
    Gives P (Builtin.copy_ #[t, tx] ty #[u, v]) c (copyA a m l) nb := by
  have hll := (VRl_iff.1 hl).1
  cases a with
  | os id off n sz =>
    obtain ⟨A, k, rfl, hnk, hA⟩ := h
    simp only [copyA]
    refine Gives.look fun hh o ho => ?_
    obtain ⟨y, e', cells⟩ := o
    simp only
    split
    · rename_i hcnd
      obtain ⟨⟨rfl, hn0⟩, hle⟩ := hcnd
      intro r R W hr _ hn
      simp [AM.run] at hr
      obtain ⟨rfl, rfl, rfl⟩ := hr
      rcases hA with ⟨_, hk0⟩ | ⟨b, hφ, rfl, cs, e2, f2, hcs, hsz⟩
      · omega
      · obtain ⟨cs', hb', hlen, hcells, hm⟩ := hh.cells ho hφ ⟨_, _, _, hcs⟩
        rw [hcs] at hb'
        cases hb'
        obtain ⟨⟨A2, k2, rfl, hsrc⟩, hnl, hone⟩ := hs
        have hqm : Nat.min m n ≤ m := Nat.min_le_left m n
        have hqn : Nat.min m n ≤ n := Nat.min_le_right m n
        generalize hq : Nat.min m n = q at *
        have ln : (news.take q).length = q := by rw [List.length_take]; omega
        have ll : (l.take q).length = q := by rw [List.length_take]; omega
        have T := Then.store hh nb ho hφ hcs off (news.take q) (cells' := setN cells off (l.take q)) (by omega) (by rw [setN_length]; exact hlen) (fun j a hj => by
          rw [setN_get _ (by omega), ll] at hj
          rw [setA_get _ _ _ _ (by omega), ln]
          split at hj
          · rename_i hin
            rw [if_pos hin]
            rw [List.getElem?_take] at hj ⊢
            split at hj
            · rename_i hlt
              rw [if_pos hlt]
              exact (VRl_iff.1 hl).2 _ _ hj
            · cases hj
          · rename_i hin
            rw [if_neg hin]
            exact hcells _ _ hj)
        refine ⟨_, _, ?_, rfl, T⟩
        by_cases hm0 : m = 0
        · subst hm0
          have hq0 : q = 0 := by omega
          subst hq0
          have := run_copy_none (P := P) c.w t tx ty e (some ⟨b, off, none⟩) A2 n k 0 k2 ht (by rw [hi]; simp [h1]) hq
          simpa [goInt, World.setCells] using this
        · obtain ⟨a2, rfl, hcell⟩ := hsrc hm0
          have := run_copy_cells (P := P) c.w t tx ty e b off n k a2 m k2 (news.take q) ht (by rw [hi]; simp [h1]) (by rw [ln, hq])
            (fun j v hj => hcell j v (by rw [List.getElem?_take] at hj; split at hj; · exact hj
                                         · cases hj))
            (fun j hj => by
              rw [ln] at hj
              have hlt : off + j < cs.size := by omega
              simp [World.cell?, hcs, hlt])
            (fun j _ => by simp [World.frozen?, hcs]) (fun v hv => hone v (List.mem_of_mem_take hv))
          rw [ln] at this
          exact this
    · exact Gives.fail
  | _ => exact Gives.fail
theorem g_appz {t tx ty e : TypeId} (hneM : e ≠ MAPE) {i : TypeInfo} {z : Value} (ht : P.underlying t = some (.slice e)) (htx : P.underlying tx = some (.int .i64)) (hi : P.info? e = some i) (hz : i.zero = some z) (hzs : z.cells.size = i.size) (hb0 : 0 < i.bytes) (hs0 : 0 < i.size) (h1 : z.cells.toList.all (·.oneCell') = true)
    {a x : AV} {u v : Value} (h : VR c a u) (hx : VR c x v) : Gives P (Builtin.append_ #[t, tx] ty #[u, v]) c (appzA nb e i.size i.bytes z.cells.toList a x) nb := by
  cases a with
  | v a =>
    have e0 : u = a := h
    subst e0
    unfold appzA
    split
    · rename_i h0
      cases h0
      split
      · rename_i n
        have e0 : v = .int .i64 n := hx
        subst e0
        split
        · rename_i hh
          obtain ⟨hp, hb⟩ := hh
          intro r R W hr hH hn
          simp [AM.run] at hr
          obtain ⟨rfl, rfl, rfl⟩ := hr
          have hn1 := (hn nb (Nat.le_refl _)).resolve_right (by omega)
          have hnb : (n.toNat : Int) ≤ 140737488355328 := by
            have := Nat.le_mul_of_pos_right n.toNat hb0
            omega
          have hw : IntKind.i64.wrap n = n := by rw [IntKind.wrap_i64]; omega
          have hnz : ¬ n.toNat = 0 := by omega
          have hfit := growslice_fits (need := n.toNat) (old := 0) (bytes := i.bytes) (by omega) hb
          have h48 : ¬ (281474976710656 < n * (i.bytes : Int)) := by
            have : n * (i.bytes : Int) = ((n.toNat * i.bytes : Nat) : Int) := by rw [Int.natCast_mul, Int.toNat_of_nonneg (by omega)]
            omega
          have T0 := Then.drew hH nb
          have T := Then.alloc (c := ⟨c.w.drew, c.B, c.φ, c.σ, c.X, c.Y⟩) T0.hr hn1 (Builtin.zeroCells z.cells n.toNat ++ Builtin.zeroCells z.cells (grownCap c.w n.toNat 0 e - n.toNat)) e hneM ((List.replicate n.toNat (z.cells.toList.map .v)).flatten) (by rw [flatten_len]; simp [zeroCells_size, hzs]) (fun q a hq => by
              obtain ⟨f1, f2⟩ := flatten_get hq
              rw [List.length_map, Array.length_toList] at f1 f2
              rw [List.getElem?_map, Option.map_eq_some_iff] at f2
              obtain ⟨y, hy, rfl⟩ := f2
              refine ⟨y, ?_, List.all_eq_true.1 h1 y (List.mem_of_getElem? hy), rfl⟩
              have hq2 : q % z.cells.size < z.cells.size := Nat.mod_lt _ (by omega)
              rw [Array.getElem?_append_left (by rw [zeroCells_size]; exact f1)]
              simp only [Builtin.zeroCells, Array.getElem?_map, Array.getElem?_range, f1, if_true, Option.map_some]
              rw [getElem!_pos z.cells _ hq2]
              rw [Array.getElem?_toList, Array.getElem?_eq_getElem hq2] at hy
              exact hy) true
          refine ⟨.slice (some ⟨c.w.heap.size, 0, none⟩) n.toNat (grownCap c.w n.toNat 0 e), _, ?_, ⟨_, _, rfl, grownCap_ge c.w n.toNat 0 e, .inr ⟨c.w.heap.size, by simp [Cx.put], rfl, _, e, (0, 0), heap_new _ _, ?_⟩⟩, (T0.trans T)⟩
          · have h63 : ¬ (9223372036854775807 < max n 0) := by omega
            have h48' : ¬ (281474976710656 < Builtin.nextslicecap n.toNat 0 * i.bytes) := by omega
            have hlt : ¬ n < 0 := by omega
            have hne : n.toNat * i.size ≠ 0 := Nat.mul_ne_zero (by omega) (by omega)
            have hle : ¬ n ≤ 0 := by omega
            simp [Builtin.append_, run_underlying ht, run_underlying htx, sizeOf, typeInfo, zeroValue, hi, hz, asInt, asIntOf, hw, hlt, h48, hnz, hle, h63, h48', Question.forced, Builtin.firstCells, newRow, grownCap, Cx.put, World.alloc_eq]
            exact fun h0 => absurd h0 hne
          · have := grownCap_ge c.w n.toNat 0 e
            simp only [Array.size_append, zeroCells_size, hzs, Nat.zero_add] at *
            rw [← Nat.add_mul]
            have : n.toNat + (grownCap c.w n.toNat 0 e - n.toNat) = grownCap c.w n.toNat 0 e := by omega
            rw [this]
            exact Nat.le_refl _
        · exact Gives.fail
      · exact Gives.fail
    · rename_i h0; cases h0
    · exact Gives.fail
  | os id off n sz' =>
    unfold appzA
    split
    · rename_i h0; cases h0
    · rename_i h0
      cases h0
      split
      · rename_i i0
        have e0 : v = .int .i64 i0 := hx
        subst e0
        obtain ⟨A, k, rfl, hnk, hA⟩ := h
        refine Gives.look fun hh o ho => ?_
        obtain ⟨y, e', cells⟩ := o
        simp only
        split
        · rename_i hcnd
          obtain ⟨⟨rfl, rfl, hcl⟩, hp, hb⟩ := hcnd
          intro r R W hr _ hn
          simp [AM.run] at hr
          obtain ⟨rfl, rfl, rfl⟩ := hr
          have hn1 := (hn nb (Nat.le_refl _)).resolve_right (by omega)
          have hne : id ≠ nb := by
            intro e1
            rw [e1, hh.noRow hn1] at ho
            cases ho
          have hnb : ((n + i0.toNat : Nat) : Int) ≤ 140737488355328 := by
            have := Nat.le_mul_of_pos_right (n + i0.toNat) hb0
            omega
          have hi0 : i0.toNat * i.bytes ≤ 140737488355328 := by
            have : i0.toNat * i.bytes ≤ (n + i0.toNat) * i.bytes := Nat.mul_le_mul_right _ (by omega)
            omega
          have hw : IntKind.i64.wrap i0 = i0 := by rw [IntKind.wrap_i64]; omega
          have hlt : ¬ i0 < 0 := by omega
          have h48 : ¬ (281474976710656 < i0 * (i.bytes : Int)) := by
            have : i0 * (i.bytes : Int) = ((i0.toNat * i.bytes : Nat) : Int) := by rw [Int.natCast_mul, Int.toNat_of_nonneg (by omega)]
            omega
          have hz0 : i0.toNat * i.size ≠ 0 := Nat.mul_ne_zero (by omega) (by omega)
          generalize hm : i0.toNat = m at *
          have zl : ((List.replicate m (z.cells.toList.map AV.v)).flatten).length = m * i.size := by rw [flatten_len]; simp [hzs]
          have zc : ∀ (q : Nat) a, ((List.replicate m (z.cells.toList.map AV.v)).flatten)[q]? = some a → ∃ x, (Builtin.zeroCells z.cells m)[q]? = some x ∧ x.oneCell' = true ∧ a = .v x := by
            intro q a hq
            obtain ⟨f1, f2⟩ := flatten_get hq
            rw [List.length_map, Array.length_toList] at f1 f2
            rw [List.getElem?_map, Option.map_eq_some_iff] at f2
            obtain ⟨y, hy, rfl⟩ := f2
            refine ⟨y, ?_, List.all_eq_true.1 h1 y (List.mem_of_getElem? hy), rfl⟩
            have hq2 : q % z.cells.size < z.cells.size := Nat.mod_lt _ (by omega)
            simp only [Builtin.zeroCells, Array.getElem?_map, Array.getElem?_range, f1, if_true, Option.map_some]
            rw [getElem!_pos z.cells _ hq2]
            rw [Array.getElem?_toList, Array.getElem?_eq_getElem hq2] at hy
            exact hy
          have zs : (Builtin.zeroCells z.cells m).size = m * i.size := by rw [zeroCells_size, hzs]
          by_cases hroom : n + m ≤ k
          · rcases hA with ⟨_, h1⟩ | ⟨b, hφ, rfl, cs, e2, f2, hcs, hsz⟩
            · omega
            · obtain ⟨cs', hb', hle, hcells, _⟩ := hh.cells ho hφ ⟨_, _, _, hcs⟩
              rw [hcs] at hb'
              cases hb'
              have hmul : (n + m) * i.size ≤ k * i.size := Nat.mul_le_mul_right _ hroom
              rw [Nat.add_mul] at hmul
              have hst := run_storeCells_cells (P := P) b (n * i.size) (Builtin.zeroCells z.cells m).toList 0 c.w (fun j hj => by
                  have hlt : n * i.size + 0 + j < cs.size := by simp [zs] at hj; omega
                  simp only [World.cell?, hcs]
                  rw [Array.getElem?_eq_getElem hlt]; rfl) (fun j _ => by simp [World.frozen?, hcs]) (fun v hv => by
                  obtain ⟨q, hq, rfl⟩ := List.mem_iff_getElem.1 hv
                  have hq' : q < ((List.replicate m (z.cells.toList.map AV.v)).flatten).length := by rw [zl]; simp [zs] at hq; exact hq
                  obtain ⟨x, x1, x2, _⟩ := zc q _ (List.getElem?_eq_getElem hq')
                  have : (Builtin.zeroCells z.cells m).toList[q]? = some x := by simpa using x1
                  rw [List.getElem?_eq_getElem hq] at this
                  cases this
                  exact x2)
              have T1 := Then.store hh nb ho hφ hcs (n * i.size) (Builtin.zeroCells z.cells m).toList (cells' := cells ++ (List.replicate m (z.cells.toList.map AV.v)).flatten) (by simp [zs]; omega) (by rw [List.length_append, zl]; omega) (fun j a hj => by
                rw [setA_get _ _ _ _ (by simp [zs]; omega)]
                rw [List.getElem?_append] at hj
                split at hj
                · rw [if_neg (by omega)]; exact hcells j a hj
                · rename_i hj2
                  have hj3 : j - cells.length < ((List.replicate m (z.cells.toList.map AV.v)).flatten).length := by rw [List.getElem?_eq_some_iff] at hj; exact hj.1
                  rw [zl] at hj3
                  rw [if_pos (by simp [zs]; omega), show j - n * i.size = j - cells.length from by omega]
                  obtain ⟨x, x1, x2, rfl⟩ := zc _ _ hj
                  exact ⟨x, by simpa using x1, x2, rfl⟩)
              have T2 := Then.rename T1.hr (nb := nb) hn1 hne (by simp [app]; exact ⟨rfl, rfl, rfl⟩) hφ
              refine ⟨.slice (some ⟨b, 0, none⟩) (n + m) k, _, ?_, ⟨_, k, rfl, hroom, .inr ⟨b, by simp [Cx.put], rfl, setA cs (n * i.size) (Builtin.zeroCells z.cells m).toList, e', (0, 0), setCells_heap _ _ _ _ hcs, by rw [setA_size]; exact hsz⟩⟩, (T1.trans T2).eqW ?_⟩
              · have hst' : (storeCells (({ block := b, off := 0 } : Addr).add (n * i.size)) (Builtin.zeroCells z.cells m).toList).run P c.w = .ok () (c.w.setCells b (n * i.size) (Builtin.zeroCells z.cells m).toList) := by
                  rw [Addr.add_mid, Nat.zero_add]; simpa using hst
                simp only [Builtin.append_]
                simp [run_underlying ht, run_underlying htx, sizeOf, typeInfo, zeroValue, hi, hz, asInt, asIntOf, hw, hlt, h48, hm, hroom, hz0, hst', Cx.put]
              · funext q
                simp only [app, List.cons_append, List.nil_append]
                by_cases q1 : q = nb <;> by_cases q2 : q = id <;> simp [q1, q2]
          · have hold : ∃ olds : List Value, (Builtin.firstCells i.size n (.slice A n k)).run P c.w.drew = .ok olds.toArray c.w.drew ∧ olds.length = n * i.size ∧ ∀ (j : Nat) a, cells[j]? = some a → ∃ u, olds[j]? = some u ∧ u.oneCell' = true ∧ VR c a u := by
              by_cases h0 : n = 0
              · subst h0
                have h2 : cells = [] := List.eq_nil_of_length_eq_zero (by omega)
                subst h2
                exact ⟨[], by cases A <;> simp [Builtin.firstCells, loadCells, loadCellsFrom], by simp, fun j a hj => by simp at hj⟩
              · rcases hA with ⟨_, h1⟩ | ⟨b, hφ, rfl, cs9, e9, f9, h9, _⟩
                · omega
                · obtain ⟨cs, _, _, _, hm⟩ := hh.cells ho hφ ⟨_, _, _, h9⟩
                  obtain ⟨us, e1, e2, e3⟩ := range_list (c := c) (b := b) (off := 0) (l := cells) hm
                  exact ⟨us, run_firstCells_some c.w.drew i.size n ⟨b, 0, none⟩ n k us (by omega) (fun j u hu => by rw [Addr.add_mid]; simpa using e2 j u hu), by omega, (VRl_iff.1 e3).2⟩
            obtain ⟨olds, hold, hol, hov⟩ := hold
            have hfit := growslice_fits (need := n + m) (old := k) (bytes := i.bytes) (by omega) hb
            have h48' : ¬ (281474976710656 < Builtin.nextslicecap (n + m) k * i.bytes) := by omega
            have h63 : ¬ (9223372036854775807 < (n : Int) + (m : Int)) := by omega
            have T0 := Then.drew hh nb
            have T := Then.alloc (c := ⟨c.w.drew, c.B, c.φ, c.σ, c.X, c.Y⟩) T0.hr hn1 (olds.toArray ++ Builtin.zeroCells z.cells m ++ Builtin.zeroCells z.cells (grownCap c.w (n + m) k e' - (n + m))) e' hneM (cells ++ (List.replicate m (z.cells.toList.map AV.v)).flatten) (by rw [List.length_append, zl]; simp [zs]; omega) (fun j a hj => by
              rw [List.getElem?_append] at hj
              split at hj
              · obtain ⟨u, e1, e2, e3⟩ := hov j a hj
                refine ⟨u, ?_, e2, e3.mono T0.grow T0.names⟩
                rw [Array.getElem?_append_left (by simp; omega), Array.getElem?_append_left (by simp; omega)]
                simpa using e1
              · rename_i hj2
                obtain ⟨x, x1, x2, rfl⟩ := zc _ _ hj
                refine ⟨x, ?_, x2, rfl⟩
                have hj3 : j - cells.length < m * i.size := by rw [← zs]; exact (Array.getElem?_eq_some_iff.1 x1).1
                rw [Array.getElem?_append_left (by simp [zs]; omega), Array.getElem?_append_right (by simp; omega)]
                simp only [List.size_toArray]
                rw [hol, ← hcl]; exact x1) y
            have T2 := Then.drop T.hr nb id
            refine ⟨.slice (some ⟨c.w.heap.size, 0, none⟩) (n + m) (grownCap c.w (n + m) k e'), _, ?_, ⟨_, _, rfl, grownCap_ge _ _ _ _, .inr ⟨c.w.heap.size, by simp [Cx.put], rfl, _, e', (0, 0), heap_new _ _, ?_⟩⟩, ((T0.trans T).trans T2).eqW ?_⟩
            · simp only [Builtin.append_]
              simp [run_underlying ht, run_underlying htx, sizeOf, typeInfo, zeroValue, hi, hz, asInt, asIntOf, hw, hlt, h48, hm, hroom, hz0, h63, h48', Question.forced, hold, newRow, grownCap, Cx.put, World.alloc_eq]
              exact fun hc => absurd hc (by omega)
            · have := grownCap_ge c.w (n + m) k e'
              simp only [Array.size_append, List.size_toArray, zs, zeroCells_size, hzs, Nat.zero_add] at *
              rw [hol, ← Nat.add_mul, ← Nat.add_mul]
              have : n + m + (grownCap c.w (n + m) k e' - (n + m)) = grownCap c.w (n + m) k e' := by omega
              rw [this]
              exact Nat.le_refl _
            · funext q
              simp only [app, List.cons_append, List.nil_append]
              by_cases q1 : q = nb <;> by_cases q2 : q = id <;> simp [q1, q2] <;> first | exact hne | exact fun e => hne e.symm
        · exact Gives.fail
      · exact Gives.fail
    · exact Gives.fail
  | _ => exact Gives.fail
end Go.Proofs.YtonglhkiobibgaaGreatDoor
namespace Go.Proofs.YtonglhkiobibgaaGreatDoor
open Go.RowKit Go.Instr
variable {P : Program} {c : Cx} {nb : Nat}

/-- a new block, whatever it holds -/
theorem Then.allocO {c : Cx} (h : HR c) {nb : Nat} (hn : c.φ nb = none) (o : Obj) (us : Array Value) (e : TypeId) (cells : List AV) (y : Bool) (hB : Blk (c.w.alloc o) c.w.heap.size e us cells.length) (hl : cells.length ≤ us.size)
    (hv : ∀ (j : Nat) a, cells[j]? = some a → ∃ u, us[j]? = some u ∧ u.oneCell' = true ∧ VR c a u) :
    Then c nb [(nb, some (.row y e cells))] (c.put (c.w.alloc o) nb (some c.w.heap.size) [(nb, some (.row y e cells))]) := by
  have hs := h.noRow hn
  generalize hd : c.put (c.w.alloc o) nb (some c.w.heap.size) [(nb, some (.row y e cells))] = d
  have dw : d.w = c.w.alloc o := by rw [← hd]; rfl
  have dφ : ∀ k, d.φ k = if k = nb then some (some c.w.heap.size) else c.φ k := by rw [← hd]; intro k; rfl
  have dσ : ∀ k, d.σ k = if k = nb then some (.row y e cells) else c.σ k := by rw [← hd]; intro k; rfl
  have dB : d.B = c.B := by rw [← hd]; rfl
  have dX : d.X = c.X := by rw [← hd]; rfl
  have dY : d.Y = c.Y := by rw [← hd]; rfl
  have g : Grow c d := by
    refine Still.grow ⟨dY, dX, dB, by rw [dw]; rfl, by rw [dw]; rfl, by rw [dw]; rfl, by rw [dw]; exact size_new _ _, fun b hb _ => by rw [dw]; exact Below.heap_alloc _ _ _ hb, ?_, fun b cs e' f hb => ⟨cs, f, ?_, rfl⟩⟩
    · rintro b ⟨id, o, h1, h2⟩
      rw [dσ] at h1
      rw [dφ] at h2
      by_cases e1 : id = nb
      · rw [if_pos e1] at h2; simp at h2; exact .inr (by omega)
      · rw [if_neg e1] at h1 h2; exact .inl ⟨id, o, h1, h2⟩
    · rw [dw, Below.heap_alloc _ _ _ (by rw [Array.getElem?_eq_some_iff] at hb; exact hb.1)]; exact hb
  have n : Names c d := fun k x hk => by rw [dφ, if_neg (by intro e1; rw [e1, hn] at hk; cases hk)]; exact hk
  refine ⟨g, n, ⟨fun id y' e' cells' h1 => ?_, fun id id' b h1 h2 h3 h4 => ?_, by rw [dB]; exact Nat.le_trans h.base g.size, fun b hb => by rw [dX] at hb; exact Nat.lt_of_lt_of_le (h.xlt b hb) g.size, h.gl.grow g⟩, by rw [← hd]; rfl, fun id hid => ?_⟩
  · rw [dσ] at h1
    by_cases e1 : id = nb
    · rw [if_pos e1] at h1
      simp at h1
      obtain ⟨rfl, rfl, rfl⟩ := h1
      refine .inr ⟨c.w.heap.size, us, by rw [dφ, if_pos e1], by rw [dw]; exact hB, ⟨fun _ => by rw [dB]; exact h.base, by rw [dX]; exact fun hx => Nat.lt_irrefl _ (h.xlt _ hx)⟩, hl, fun j a hj => ?_⟩
      obtain ⟨u, h1, h2, h3⟩ := hv j a hj
      exact ⟨u, h1, h2, h3.mono g n⟩
    · rw [if_neg e1] at h1
      rcases h.row id y' e' cells' h1 with ⟨h2, h3⟩ | ⟨b, cs, h2, h3, h4, h5, h6⟩
      · exact .inl ⟨n _ _ h2, h3⟩
      · refine .inr ⟨b, cs, n _ _ h2, ?_, ⟨fun hy => by rw [dB]; exact h4.1 hy, by rw [dX]; exact h4.2⟩, h5, fun j a hj => ?_⟩
        · exact h3.of (by rw [dw, Below.heap_alloc _ _ _ h3.lt])
        · obtain ⟨u, h7, h8, h9⟩ := h6 j a hj
          exact ⟨u, h7, h8, h9.mono g n⟩
  · have old : ∀ k b', d.σ k ≠ none → k ≠ nb → c.φ k = some (some b') → b' < c.w.heap.size := by
      intro k b' hk hkn hb'
      rw [dσ, if_neg hkn] at hk
      obtain ⟨o, ho⟩ := Option.ne_none_iff_exists'.1 hk
      obtain ⟨y1, e1, c1⟩ := o
      rcases h.row k y1 e1 c1 ho with ⟨h5, _⟩ | ⟨b2, cs2, h5, h6, _⟩
      · rw [hb'] at h5; cases h5
      · rw [hb'] at h5; cases h5; exact h6.lt
    rw [dφ] at h3 h4
    by_cases e1 : id = nb <;> by_cases e2 : id' = nb
    · rw [e1, e2]
    · rw [if_pos e1] at h3; rw [if_neg e2] at h4
      have := old id' b h2 e2 h4
      simp at h3; omega
    · rw [if_neg e1] at h3; rw [if_pos e2] at h4
      have := old id b h1 e1 h3
      simp at h4; omega
    · rw [if_neg e1] at h3; rw [if_neg e2] at h4
      rw [dσ, if_neg e1] at h1
      rw [dσ, if_neg e2] at h2
      exact h.inj id id' b h1 h2 h3 h4
  · rw [dφ] at hid
    by_cases e1 : id = nb
    · exact .inr (by omega)
    · rw [if_neg e1] at hid; exact .inl hid
/-- a held block is another one now -/
theorem Then.storeO {c : Cx} (h : HR c) (nb : Nat) {id b : Nat} {y : Bool} {e : TypeId} {cells cells' : List AV} (hid : c.σ id = some (.row y e cells)) (hφ : c.φ id = some (some b)) {w' : World} {us : Array Value}
    (hB : Blk w' b e us cells'.length) (hsh : ∀ (cs : Array Value) e f, c.w.heap[b]? ≠ some (.cells cs e f)) (w2 : ∀ k, k ≠ b → w'.heap[k]? = c.w.heap[k]?) (w3 : w'.heap.size = c.w.heap.size)
    (w4 : w'.output = c.w.output) (w5 : w'.os = c.w.os) (w6 : w'.tape = c.w.tape) (hl : cells'.length ≤ us.size)
    (hv : ∀ (j : Nat) a, cells'[j]? = some a → ∃ u, us[j]? = some u ∧ u.oneCell' = true ∧ VR c a u) :
    Then c nb [(id, some (.row y e cells'))] ⟨w', c.B, c.φ, app c.σ [(id, some (.row y e cells'))], c.X, c.Y⟩ := by
  generalize hd : (⟨w', c.B, c.φ, app c.σ [(id, some (.row y e cells'))], c.X, c.Y⟩ : Cx) = d
  have dw : d.w = w' := by rw [← hd]
  have dφ : d.φ = c.φ := by rw [← hd]
  have dσ : ∀ k, d.σ k = if k = id then some (.row y e cells') else c.σ k := by rw [← hd]; intro k; rfl
  have dB : d.B = c.B := by rw [← hd]
  have dX : d.X = c.X := by rw [← hd]
  have dY : d.Y = c.Y := by rw [← hd]
  have hT : c.T b := ⟨id, _, hid, hφ⟩
  have g : Grow c d := by
    refine Still.grow ⟨dY, dX, dB, by rw [dw, w4], by rw [dw, w5], by rw [dw, w6], by rw [dw, w3]; exact Nat.le_refl _, fun k hk ht => by rw [dw]; exact w2 k (fun e1 => ht (by rw [e1]; exact hT)), ?_, fun k cs' e' f hk => ?_⟩
    · rintro k ⟨i, ob, h1, h2⟩
      rw [dσ] at h1
      rw [dφ] at h2
      by_cases e1 : i = id
      · exact .inl ⟨id, _, hid, by rw [← e1]; exact h2⟩
      · rw [if_neg e1] at h1; exact .inl ⟨i, ob, h1, h2⟩
    · by_cases e1 : k = b
      · subst e1; exact absurd hk (hsh _ _ _)
      · exact ⟨cs', f, by rw [dw, w2 k e1]; exact hk, rfl⟩
  have n : Names c d := fun k x hk => by rw [dφ]; exact hk
  have live : ∀ k, d.σ k ≠ none → c.σ k ≠ none := fun k hk => by
    rw [dσ] at hk
    by_cases e1 : k = id
    · rw [e1, hid]; simp
    · rwa [if_neg e1] at hk
  refine ⟨g, n, ⟨fun k y' e' cl h1 => ?_, fun i i' b' h1 h2 h3 h4 => ?_, by rw [dB]; exact Nat.le_trans h.base g.size, fun b hb => by rw [dX] at hb; exact Nat.lt_of_lt_of_le (h.xlt b hb) g.size, h.gl.grow g⟩, by rw [← hd], fun k hk => by rw [dφ] at hk; exact .inl hk⟩
  · rw [dσ] at h1
    by_cases e1 : k = id
    · rw [if_pos e1] at h1
      simp at h1
      obtain ⟨rfl, rfl, rfl⟩ := h1
      rcases h.row id y e cells hid with ⟨h2, _⟩ | ⟨b2, cs2, h2, h3, h4, _⟩
      · rw [hφ] at h2; cases h2
      · rw [hφ] at h2; cases h2
        refine .inr ⟨b, us, by rw [e1, dφ]; exact hφ, by rw [dw]; exact hB, ⟨fun hy => by rw [dB]; exact h4.1 hy, by rw [dX]; exact h4.2⟩, hl, fun j a hj => ?_⟩
        obtain ⟨u, h5, h6, h7⟩ := hv j a hj
        exact ⟨u, h5, h6, h7.mono g n⟩
    · rw [if_neg e1] at h1
      rcases h.row k y' e' cl h1 with ⟨h2, h3⟩ | ⟨b2, cs2, h2, h3, h4, h5, h6⟩
      · exact .inl ⟨n _ _ h2, h3⟩
      · have hne : b2 ≠ b := fun e2 => e1 (h.inj k id b (by rw [h1]; simp) (by rw [hid]; simp) (by rw [← e2]; exact h2) hφ)
        refine .inr ⟨b2, cs2, n _ _ h2, h3.of (by rw [dw, w2 b2 hne]), ⟨fun hy => by rw [dB]; exact h4.1 hy, by rw [dX]; exact h4.2⟩, h5, fun j a hj => ?_⟩
        obtain ⟨u, h7, h8, h9⟩ := h6 j a hj
        exact ⟨u, h7, h8, h9.mono g n⟩
  · rw [dφ] at h3 h4
    exact h.inj i i' b' (live i h1) (live i' h2) h3 h4
/-- what a held map's row says of memory -/
theorem HR.mapAt {c : Cx} (h : HR c) {id b : Nat} {y : Bool} {cells : List AV} (hs : c.σ id = some (.row y MAPE cells)) (hφ : c.φ id = some (some b)) :
    ∃ es clock, c.w.heap[b]? = some (.map es clock) ∧ (∀ x ∈ es.toList, x.born < clock) ∧ (es.toList.map (·.born)).Nodup ∧ VRl c cells (flatM es.toList) := by
  rcases h.row id y MAPE cells hs with ⟨h1, _⟩ | ⟨b', cs, h1, h2, h3, h4, h5⟩
  · rw [hφ] at h1; cases h1
  · rw [hφ] at h1; cases h1
    rcases h2 with ⟨h2, _⟩ | ⟨_, es, clock, h2, rfl, h6, h7, h8⟩
    · exact absurd rfl h2
    · exact ⟨es, clock, h2, h6, h7, VRl_iff.2 ⟨by simpa using h8.symm, fun j a hj => by simpa using h5 j a hj⟩⟩

theorem flatM_cons (e : MapEntry) (es : List MapEntry) : flatM (e :: es) = e.key :: e.val :: flatM es := rfl
theorem mfind_no {n : Int} {a0 a1 : AV} {r : List AV} (h : ∀ k, a0 ≠ .v (.int .i64 k)) : mfind n (a0 :: a1 :: r) = none := by
  unfold mfind
  split
  · rename_i h0; cases h0
  · rename_i k v r' h0; cases h0; exact absurd rfl (h k)
  · rfl
theorem mfind_spec {q : IntKind} {n : Int} : ∀ {es : List MapEntry} {cells : List AV} {i : Nat}, VRl c cells (flatM es) → (mfind n cells = some none → findNow (.int q) (.int .i64 n) es i = some none) ∧
    ∀ a, mfind n cells = some (some a) → ∃ j e, es[j]? = some e ∧ findNow (.int q) (.int .i64 n) es i = some (some (i + j, e.val)) ∧ VR c a e.val
  | [], cells, i, h => by
    have : cells = [] := List.eq_nil_of_length_eq_zero (by have := (VRl_iff.1 h).1; simp [flatM] at this; omega)
    subst this
    exact ⟨fun _ => rfl, fun a h => by simp [mfind] at h⟩
  | e :: es, cells, i, h => by
    rw [flatM_cons] at h
    cases cells with
    | nil => rw [VRl] at h; cases h
    | cons a0 r0 =>
      rw [VRl] at h
      obtain ⟨k, us, e1, h1, h2, h3⟩ := h
      cases e1
      cases r0 with
      | nil => rw [VRl] at h3; cases h3
      | cons a1 r =>
        rw [VRl] at h3
        obtain ⟨w, us, e1, h4, h5, h6⟩ := h3
        cases e1
        have ih := mfind_spec (q := q) (n := n) (es := es) (cells := r) (i := i + 1) h6
        by_cases h0 : ∃ k, a0 = .v (.int .i64 k)
        · obtain ⟨k, rfl⟩ := h0
          have hk : e.key = .int .i64 k := h2
          simp only [mfind]
          by_cases hn : k = n
          · subst hn
            simp only [if_true]
            refine ⟨fun h => by simp at h, fun a h => ?_⟩
            simp at h
            subst h
            exact ⟨0, e, rfl, by simp [findNow, sameNow, hk], h5⟩
          · simp only [if_neg hn]
            have hs : sameNow (.int q) (.int .i64 n) e.key = some false := by rw [hk]; simp [sameNow, Ne.symm hn]
            refine ⟨fun h => ?_, fun a h => ?_⟩
            · rw [findNow, hs]; exact ih.1 h
            · obtain ⟨j, e', f1, f2, f3⟩ := ih.2 a h
              exact ⟨j + 1, e', f1, by rw [findNow, hs]; simpa [Nat.add_assoc, Nat.add_comm 1 j] using f2, f3⟩
        · rw [mfind_no (fun k hk => h0 ⟨k, hk⟩)]
          exact ⟨fun h => (by cases h), fun a h => (by cases h)⟩
theorem mput_spec {q : IntKind} {n : Int} {v : AV} {u : Value} (hu : u.oneCell' = true) (hv : VR c v u) : ∀ {es : List MapEntry} {cells cells' : List AV} {i : Nat}, VRl c cells (flatM es) → mput n v cells = some cells' →
    (∃ j e, es[j]? = some e ∧ e.key = .int .i64 n ∧ findNow (.int q) (.int .i64 n) es i = some (some (i + j, e.val)) ∧ VRl c cells' (flatM (es.modify j fun e => { e with key := .int .i64 n, val := u }))) ∨
    (findNow (.int q) (.int .i64 n) es i = some none ∧ VRl c cells' (flatM es ++ [.int .i64 n, u]))
  | [], cells, cells', i, h, hp => by
    have : cells = [] := List.eq_nil_of_length_eq_zero (by have := (VRl_iff.1 h).1; simp [flatM] at this; omega)
    subst this
    simp [mput] at hp
    subst hp
    exact .inr ⟨rfl, _, _, rfl, rfl, rfl, _, _, rfl, hu, hv, rfl⟩
  | e :: es, cells, cells', i, h, hp => by
    rw [flatM_cons] at h
    cases cells with
    | nil => rw [VRl] at h; cases h
    | cons a0 r0 =>
      rw [VRl] at h
      obtain ⟨k, us, e1, h1, h2, h3⟩ := h
      cases e1
      cases r0 with
      | nil => rw [VRl] at h3; cases h3
      | cons a1 r =>
        rw [VRl] at h3
        obtain ⟨w, us, e1, h4, h5, h6⟩ := h3
        cases e1
        unfold mput at hp
        split at hp
        · rename_i h0; cases h0
        · rename_i k v' r' h0
          cases h0
          have hk : e.key = .int .i64 k := h2
          by_cases hn : k = n
          · subst hn
            rw [if_pos rfl] at hp
            cases hp
            refine .inl ⟨0, e, rfl, hk, by simp [findNow, sameNow, hk], ?_⟩
            exact ⟨_, _, rfl, rfl, rfl, _, _, rfl, hu, hv, h6⟩
          · rw [if_neg hn] at hp
            split at hp
            · rename_i l hl
              cases hp
              have hs : sameNow (.int q) (.int .i64 n) e.key = some false := by rw [hk]; simp [sameNow, Ne.symm hn]
              rcases mput_spec (q := q) hu hv (es := es) (cells := r) (i := i + 1) h6 hl with ⟨j, e', f1, f2, f3, f4⟩ | ⟨f1, f2⟩
              · refine .inl ⟨j + 1, e', f1, f2, by rw [findNow, hs]; simpa [Nat.add_assoc, Nat.add_comm 1 j] using f3, ?_⟩
                rw [List.modify_succ_cons, flatM_cons]
                exact ⟨_, _, rfl, h1, h2, _, _, rfl, h4, h5, f4⟩
              · refine .inr ⟨by rw [findNow, hs]; exact f1, ?_⟩
                rw [flatM_cons]
                exact ⟨_, _, rfl, h1, h2, _, _, rfl, h4, h5, f2⟩
            · cases hp
        · cases hp
theorem run_findKey {kt : TypeId} {q : IntKind} (hk : P.underlying kt = some (.int q)) {n : Int} {es : List MapEntry} {r : Option (Nat × Value)} (h : findNow (.int q) (.int .i64 n) es 0 = some r) (w : World) : (findKey kt (.int .i64 n) es).run P w = .ok r w := by
  simp [findKey, run_underlying hk, h]
theorem run_checkKey {kt : TypeId} {q : IntKind} (hk : P.underlying kt = some (.int q)) (b : Bool) (n : Int) (w : World) : (checkKey b 10000 kt (.int .i64 n)).run P w = .ok () w := by
  rw [checkKey]
  simp [run_underlying hk]
theorem g_mkmap {t : TypeId} : Gives P (Instr.makeMap t none) c (.ret (.mp nb) [(nb, some (.row true MAPE []))]) nb := by
  intro r R W h hr hn
  simp [AM.run] at h
  obtain ⟨rfl, rfl, rfl⟩ := h
  have T := Then.allocO hr ((hn nb (Nat.le_refl _)).resolve_right (by omega)) (.map #[] 0) #[] MAPE [] true (.inr ⟨rfl, #[], 0, heap_new _ _, rfl, by simp, by simp, rfl⟩) (by simp) (fun j a hj => by simp at hj)
  refine ⟨.map (some c.w.heap.size), _, ?_, ⟨c.w.heap.size, by simp [Cx.put], rfl⟩, T⟩
  rfl
theorem g_mlook {t kt et : TypeId} {q : IntKind} {i : TypeInfo} {z : Value} (ht : P.underlying t = some (.map kt et)) (hk : P.underlying kt = some (.int q)) (hi : P.info? et = some i) (hz : i.zero = some z) {ok : Bool} {a x : AV} {u v : Value} (h : VR c a u) (hx : VR c x v) :
    Gives P (Instr.lookup t u v ok) c (mlookA z ok a x) nb := by
  unfold mlookA
  split
  · rename_i n
    have e0 : v = .int .i64 n := hx
    subst e0
    split
    · rename_i id
      obtain ⟨b, hφ, rfl⟩ := h
      refine Gives.look fun hr o ho => ?_
      obtain ⟨y, e, cells⟩ := o
      simp only
      split
      · rename_i he
        subst he
        obtain ⟨es, clock, hb, _, _, hv⟩ := hr.mapAt ho hφ
        have hg : (getObj b).run P c.w = .ok (.map es clock) c.w := by simp [getObj, Sem.run, hb]
        have hc := run_checkKey (P := P) hk es.isEmpty n c.w
        have hsp := mfind_spec (q := q) (n := n) (i := 0) hv
        split
        · rename_i hf
          have hfk := run_findKey (P := P) hk (hsp.1 hf) c.w
          have hrun : (Instr.lookup t (.map (some b)) (.int .i64 n) ok).run P c.w = .ok (if ok then .tuple #[z, .bool false] else z) c.w := by
            simp only [Instr.lookup, Sem.run_bind, run_underlying ht, Result.andThen_ok, hg, hc, hfk, Sem.run_pure]
            simp [zeroValue, typeInfo, hi, hz]
          cases ok
          · exact Gives.pure hrun rfl
          · exact Gives.pure hrun ⟨[z, .bool false], rfl, _, _, rfl, rfl, _, _, rfl, rfl, rfl⟩
        · rename_i a hf
          obtain ⟨j, e, f1, f2, f3⟩ := hsp.2 a hf
          have hfk := run_findKey (P := P) hk f2 c.w
          have hrun : (Instr.lookup t (.map (some b)) (.int .i64 n) ok).run P c.w = .ok (if ok then .tuple #[e.val, .bool true] else e.val) c.w := by
            simp only [Instr.lookup, Sem.run_bind, run_underlying ht, Result.andThen_ok, hg, hc, hfk, Sem.run_pure]
          cases ok
          · exact Gives.pure hrun f3
          · exact Gives.pure hrun ⟨[e.val, .bool true], rfl, _, _, rfl, f3, _, _, rfl, rfl, rfl⟩
        · exact Gives.fail
      · exact Gives.fail
    · exact Gives.fail
  · exact Gives.fail
theorem g_mupd {t kt et : TypeId} {q : IntKind} (ht : P.underlying t = some (.map kt et)) (hk : P.underlying kt = some (.int q)) {a x y : AV} {u v w : Value} (h : VR c a u) (hx : VR c x v) (hy : VR c y w) :
    Gives P (do Instr.mapUpdate t u v w; pure undef) c (mupdA a x y) nb := by
  unfold mupdA
  split
  · rename_i n
    have e0 : v = .int .i64 n := hx
    subst e0
    split
    · rename_i id
      obtain ⟨b, hφ, rfl⟩ := h
      refine Gives.look fun hr o ho => ?_
      obtain ⟨y0, e, cells⟩ := o
      simp only
      split
      · rename_i he
        obtain ⟨rfl, ho1⟩ := he
        obtain ⟨es, clock, hb, hclk, hnd, hv⟩ := hr.mapAt ho hφ
        have hone : w.oneCell' = true := by
          cases y with
          | v p => have e : w = p := hy
                   subst e; simpa [oneA] using ho1
          | os _ _ _ _ => obtain ⟨_, _, rfl, _⟩ := hy; rfl
          | op _ _ => obtain ⟨_, _, rfl, _⟩ := hy; rfl
          | mp _ => obtain ⟨_, _, rfl⟩ := hy; rfl
          | fs _ _ _ => obtain ⟨_, _, rfl, _⟩ := hy; rfl
          | fp _ _ _ => obtain ⟨_, _, rfl, _⟩ := hy; rfl
          | _ => simp [oneA] at ho1
        split
        · rename_i cells' hp
          intro r R W hrun _ hn
          simp [AM.run] at hrun
          obtain ⟨rfl, rfl, rfl⟩ := hrun
          have hg : (getObj b).run P c.w = .ok (.map es clock) c.w := by simp [getObj, Sem.run, hb]
          have hlt : b < c.w.heap.size := (Array.getElem?_eq_some_iff.1 hb).1
          have hc := run_checkKey (P := P) hk false n c.w
          have ns : ∀ (cs : Array Value) e f, c.w.heap[b]? ≠ some (.cells cs e f) := fun cs e f h9 => by rw [hb] at h9; cases h9
          rcases mput_spec (q := q) hone hy (i := 0) hv hp with ⟨j, e, f1, f2, f3, f4⟩ | ⟨f1, f2⟩
          · rw [Nat.zero_add] at f3
            have hfk := run_findKey (P := P) hk f3 c.w
            generalize hes : es.modify j (fun e => { e with key := .int .i64 n, val := w }) = es' at *
            have hes' : es'.toList = es.toList.modify j (fun e => { e with key := .int .i64 n, val := w }) := by rw [← hes]; simp
            have hborn : es'.toList.map (·.born) = es.toList.map (·.born) := by
              rw [hes']
              apply List.ext_getElem?
              intro q
              rw [List.getElem?_map, List.getElem?_map, List.getElem?_modify]
              split
              · rename_i hjq; subst hjq; cases es.toList[j]? <;> rfl
              · cases es.toList[q]? <;> rfl
            have T := Then.storeO hr nb ho hφ (w' := { c.w with heap := c.w.heap.setIfInBounds b (.map es' clock) }) (us := (flatM es'.toList).toArray) (cells' := cells')
              (.inr ⟨rfl, es', clock, by simp [hlt], rfl, fun x hx => by
                have h7 : x.born ∈ es'.toList.map (·.born) := List.mem_map.2 ⟨x, hx, rfl⟩
                rw [hborn] at h7
                obtain ⟨x', h8, h9⟩ := List.mem_map.1 h7
                rw [← h9]; exact hclk x' h8, by rw [hborn]; exact hnd, by rw [hes']; simpa using (VRl_iff.1 f4).1.symm⟩) ns
              (fun k hk => by simp [Array.getElem?_setIfInBounds_ne (Ne.symm hk)]) (by simp) rfl rfl rfl (by rw [hes']; have := (VRl_iff.1 f4).1; simp at this ⊢; omega) (fun q a hq => by rw [hes']; simpa using (VRl_iff.1 f4).2 q a hq)
            refine ⟨undef, _, ?_, trivial, T⟩
            have hkts : ∀ W, (keyThatStays (.int .i64 n) (.int .i64 n)).run P W = .ok (.int .i64 n) W := fun W => by simp [keyThatStays, sameBits]
            have hget : es[j]? = some e := by simpa using f1
            simp only [Instr.mapUpdate, Sem.run_bind, run_underlying ht, Result.andThen_ok, hg, hc, hfk, hget, Option.map_some, Option.getD_some, f2, hkts]
            simp only [hes]
            simp [setObj, Sem.run, hb]
          · have hfk := run_findKey (P := P) hk f1 c.w
            have T := Then.storeO hr nb ho hφ (w' := { c.w with heap := c.w.heap.setIfInBounds b (.map (es.push { key := .int .i64 n, val := w, born := clock }) (clock + 1)) }) (us := (flatM es.toList ++ [.int .i64 n, w]).toArray) (cells' := cells')
              (.inr ⟨rfl, es.push { key := .int .i64 n, val := w, born := clock }, clock + 1, by simp [hlt], by simp [flatM], fun x hx => by
                rw [Array.toList_push, List.mem_append] at hx
                rcases hx with hx | hx
                · have := hclk x hx; omega
                · rw [List.mem_singleton] at hx; subst hx; simp, by
                rw [Array.toList_push, List.map_append, List.nodup_append]
                refine ⟨hnd, by simp, fun p hp q hq e => ?_⟩
                obtain ⟨x', h8, rfl⟩ := List.mem_map.1 hp
                have := hclk x' h8
                simp at hq
                omega, by simpa using (VRl_iff.1 f2).1.symm⟩) ns
              (fun k hk => by simp [Array.getElem?_setIfInBounds_ne (Ne.symm hk)]) (by simp) rfl rfl rfl (by have := (VRl_iff.1 f2).1; simp at this ⊢; omega) (fun q a hq => by simpa using (VRl_iff.1 f2).2 q a hq)
            refine ⟨undef, _, ?_, trivial, T⟩
            simp only [Instr.mapUpdate, Sem.run_bind, run_underlying ht, Result.andThen_ok, hg, hc, hfk]
            simp [setObj, Sem.run, hb]
        · exact Gives.fail
      · exact Gives.fail
    · exact Gives.fail
  · exact Gives.fail
theorem flatM_length (es : List MapEntry) : (flatM es).length = 2 * es.length := by
  induction es with
  | nil => rfl
  | cons e es ih => rw [flatM_cons, List.length_cons, List.length_cons, ih, List.length_cons]; omega
theorem g_mlen {t ty kt et : TypeId} (ht : P.underlying t = some (.map kt et)) {a : AV} {u : Value} (h : VR c a u) : Gives P (Builtin.len_ #[t] ty #[u]) c (mlenA a) nb := by
  unfold mlenA
  split
  · rename_i id
    obtain ⟨b, hφ, rfl⟩ := h
    refine Gives.look fun hr o ho => ?_
    obtain ⟨y, e, cells⟩ := o
    simp only
    split
    · rename_i he
      subst he
      obtain ⟨es, clock, hb, _, _, hv⟩ := hr.mapAt ho hφ
      have hg : (getObj b).run P c.w = .ok (.map es clock) c.w := by simp [getObj, Sem.run, hb]
      have hl : cells.length / 2 = es.size := by
        have := (VRl_iff.1 hv).1
        rw [flatM_length] at this
        simp at this
        omega
      refine Gives.pure (v := .int .i64 (cells.length / 2 : Nat)) ?_ rfl
      rw [hl]
      simp [Builtin.len_, run_underlying ht, hg, goInt]
    · exact Gives.fail
  · exact Gives.fail
end Go.Proofs.YtonglhkiobibgaaGreatDoor
namespace Go.Proofs.YtonglhkiobibgaaGreatDoor
open Go.RowKit Go.Instr
variable {P : Program} {c : Cx} {nb : Nat}
theorem Then.onlyW {c : Cx} {w' : World} (h : HR c) (nb : Nat) (hs : c.w.heap.size ≤ w'.heap.size) (hb : ∀ b, b < c.w.heap.size → w'.heap[b]? = c.w.heap[b]?) (h1 : w'.output = c.w.output) (h2 : w'.os = c.w.os) (h3 : w'.tape = c.w.tape) : Then c nb [] (c.at w') := by
  have g : Grow c (c.at w') := Still.grow ⟨rfl, rfl, rfl, h1, h2, h3, hs, fun b hb2 _ => hb b hb2, fun b h => .inl h, fun b cs e f hx => ⟨cs, f, (hb b (by rw [Array.getElem?_eq_some_iff] at hx; exact hx.1)).trans hx, rfl⟩⟩
  have n : Names c (c.at w') := Names.refl c
  refine ⟨g, n, ⟨fun id y e cells hx => ?_, fun id id' b a1 a2 a3 a4 => h.inj id id' b a1 a2 a3 a4, Nat.le_trans h.base hs, fun b hx => Nat.lt_of_lt_of_le (h.xlt b hx) hs, h.gl.grow g⟩, rfl, fun id hid => .inl hid⟩
  rcases h.row id y e cells hx with ⟨k1, k2⟩ | ⟨b, cs, k1, k2, k3, k4, k5⟩
  · exact .inl ⟨k1, k2⟩
  · refine .inr ⟨b, cs, k1, k2.of (hb b k2.lt), k3, k4, fun j a hj => ?_⟩
    obtain ⟨u, m1, m2, m3⟩ := k5 j a hj
    exact ⟨u, m1, m2, m3.mono g n⟩
theorem run_slohi {lo hi : Option AV} {vlo vhi : Option Value} (hlo : ∀ a, lo = some a → ∃ u, vlo = some u ∧ VR c a u) (hlo0 : lo = none → vlo = none) (hhi : ∀ a, hi = some a → ∃ u, vhi = some u ∧ VR c a u) (hhi0 : hi = none → vhi = none) {n l h : Nat} (hl : lohi n lo hi = some (l, h)) (w : World) :
    (Instr.sliceBounds false n n vlo vhi none).run P w = .ok (l, h, n) w := by
  cases lo with
  | none =>
    have e1 := hlo0 rfl
    subst e1
    cases hi with
    | none =>
      have e2 := hhi0 rfl
      subst e2
      simp [lohi] at hl
      obtain ⟨rfl, rfl⟩ := hl
      simp [Instr.sliceBounds]
    | some b =>
      obtain ⟨v, rfl, hv⟩ := hhi b rfl
      cases b <;> simp [lohi] at hl
      rename_i q
      cases q <;> simp at hl
      rename_i kk i
      cases hv
      obtain ⟨hh, rfl, rfl⟩ := hl
      simp [Instr.sliceBounds, Instr.sliceBound, asIntOf, hh]
  | some a =>
    obtain ⟨u, rfl, hu⟩ := hlo a rfl
    cases a <;> (try (cases hi <;> simp [lohi] at hl; done))
    rename_i q
    cases q <;> (try (cases hi <;> simp [lohi] at hl; done))
    rename_i kk i
    cases hu
    cases hi with
    | none =>
      have e2 := hhi0 rfl
      subst e2
      simp [lohi] at hl
      obtain ⟨hh, rfl, rfl⟩ := hl
      simp [Instr.sliceBounds, Instr.sliceBound, asIntOf, hh]
    | some b =>
      obtain ⟨v, rfl, hv⟩ := hhi b rfl
      cases b <;> simp [lohi] at hl
      rename_i q
      cases q <;> simp at hl
      rename_i kk2 i2
      cases hv
      obtain ⟨⟨h1, h2, h3⟩, rfl, rfl⟩ := hl
      have h4 : 0 ≤ i2 := by omega
      have h5 : i ≤ i2.toNat := by omega
      simp [Instr.sliceBounds, Instr.sliceBound, asIntOf, h1, h3, h4]
      intro h; omega
theorem g_sslice {t : TypeId} (hu : P.underlying t = some .string) {a : AV} {u : Value} (h : VR c a u) {lo hi : Option AV} {vlo vhi : Option Value}
    (hlo : ∀ a, lo = some a → ∃ u, vlo = some u ∧ VR c a u) (hlo0 : lo = none → vlo = none) (hhi : ∀ a, hi = some a → ∃ u, vhi = some u ∧ VR c a u) (hhi0 : hi = none → vhi = none) :
    Gives P (Instr.sliceAt t u vlo vhi none) c (ssliceA a lo hi) nb := by
  unfold ssliceA
  split
  · rename_i s
    have e0 : u = .string s := h
    subst e0
    split
    · rename_i l h' hl
      have h1 := run_slohi (P := P) hlo hlo0 hhi hhi0 hl c.w
      exact Gives.pure (v := .string (s.extract l h')) (by simp [Instr.sliceAt, Instr.slice, run_underlying hu, h1]) rfl
    · exact Gives.fail
  · exact Gives.fail
theorem g_s2b {s e d : TypeId} (hs : P.underlying s = some .string) (hd : P.underlying d = some (.slice e)) (he : P.underlying e = some (.int .u8)) {a : AV} {u : Value} (h : VR c a u) : Gives P (convert s d u) c (s2bA a) nb := by
  unfold s2bA
  split
  · rename_i q
    have e0 : u = .string q := h
    subst e0
    intro r R W hrun hr _
    simp [AM.run] at hrun
    obtain ⟨rfl, _, rfl⟩ := hrun
    have hc := run_bytes_of_string (P := P) c.w s d e q hs hd he
    generalize hC : bytesRow q (grownCap c.w q.size 0 e) = C at hc
    have T := Then.onlyW (c := c) (w' := c.w.drew.alloc (.cells C e (C.size, C.size + 1))) hr nb (by rw [World.size_alloc]; exact Nat.le_succ _) (fun b hb => Below.heap_alloc _ _ _ hb) rfl rfl rfl
    refine ⟨_, c.at (c.w.drew.alloc (.cells C e (C.size, C.size + 1))), hc, ⟨_, _, rfl, grownCap_ge _ _ _ _, fun _ => ⟨c.w.heap.size, 0, rfl, ?_, ⟨fun _ => hr.base, ?_, fun hx => Nat.lt_irrefl _ (hr.xlt _ hx)⟩, VRm_iff.2 fun j a hj => ?_⟩⟩, T⟩
    · show c.w.heap.size < (c.w.drew.alloc _).heap.size
      rw [World.size_alloc]; exact Nat.lt_succ_self _
    · rintro ⟨id, ⟨y, e', cells⟩, h1, h2⟩
      rcases hr.row id y e' cells h1 with ⟨h3, _⟩ | ⟨b, cs, h3, h4, _⟩
      · have h2 : c.φ id = some (some c.w.heap.size) := h2
        rw [h3] at h2; cases h2
      · have h2 : c.φ id = some (some c.w.heap.size) := h2
        rw [h3] at h2; cases h2
        exact Nat.lt_irrefl _ h4.lt
    · unfold octs at hj
      rw [List.getElem?_map, Option.map_eq_some_iff] at hj
      obtain ⟨b, hb, rfl⟩ := hj
      refine ⟨.int .u8 b.toNat, ?_, rfl, rfl⟩
      rw [Nat.zero_add]
      show (c.w.drew.alloc (.cells C e (C.size, C.size + 1))).cell? ⟨c.w.drew.heap.size, j, none⟩ = _
      rw [World.cell?_alloc_mark, ← hC]
      unfold bytesRow
      have hlt : j < q.data.size := by have := (List.getElem?_eq_some_iff.1 hb).1; simpa using this
      rw [Array.getElem?_append_left (by simpa using hlt)]
      simp only [Array.getElem?_map]
      have : q.data[j]? = some b := by simpa using hb
      rw [this]; rfl
  · exact Gives.fail
theorem run_checkKey_L {n : Nat} {e : Bool} {kt : TypeId} {fs : Array Field} {us : List Value} {ks : List EK} {l : List AV} (hk : P.underlying kt = some (.struct fs)) (hf : fldKinds P fs.toList 0 = some ks) (hl : keyL ks l = true) (hv : VRl c l us) (w : World) :
    (checkKey e (n + 2) kt (.agg us.toArray)).run P w = .ok () w := by
  have hu : ∀ (j : Nat) a, l[j]? = some a → ∃ u, us.toArray[0 + j]? = some u ∧ VR c a u := fun j a hj => by
    obtain ⟨u, h1, _, h2⟩ := (VRl_iff.1 hv).2 j a hj
    exact ⟨u, by simpa using h1, h2⟩
  rw [checkKey]
  simp only [Sem.run_bind, run_underlying hk, Result.andThen_ok]
  rw [← Array.forIn_toList]
  clear hv
  generalize us.toArray = vs at *
  generalize fs.toList = L at *
  generalize 0 = k at *
  clear hk
  induction L generalizing k ks l with
  | nil => simp
  | cons f L ih =>
    unfold fldKinds at hf
    split at hf <;> try (cases hf; done)
    rename_i hn
    obtain ⟨hn1, hn2⟩ := hn
    have tl : ∀ (a : AV) (r : List AV), (∀ (j : Nat) b, (a :: r)[j]? = some b → ∃ u, vs[k + j]? = some u ∧ VR c b u) → (∃ u, vs[k]? = some u ∧ VR c a u) ∧ ∀ (j : Nat) b, r[j]? = some b → ∃ u, vs[k + 1 + j]? = some u ∧ VR c b u :=
      fun a r h => ⟨h 0 a rfl, fun j b hj => by have := h (j + 1) b (by simpa using hj); rwa [Nat.add_assoc, Nat.add_comm 1 j]⟩
    split at hf
    · rename_i ik hty
      split at hf <;> try (cases hf; done)
      rename_i ks' hks
      cases hf
      unfold keyL at hl
      split at hl <;> rename_i he1 <;> try (cases he1; done)
      · cases he1
        obtain ⟨⟨u, h1, h2⟩, h3⟩ := tl _ _ hu
        have h2 : u = _ := h2
        have p1 := fun w => show (part f.type vs f.offset).run P w = .ok u w from by simp [part, Sem.run_bind, run_isAgg hty, hn2, TypeDesc.isRow, h1]
        have p2 := fun w => show (checkKey e (n + 1) f.type u).run P w = .ok () w from by rw [h2, checkKey]; simp [run_underlying hty]
        have := ih hl (k + 1) h3 hks
        simp only [List.forIn_cons, Sem.run_bind, hn1, ne_eq, not_false_eq_true, if_true, Result.andThen_ok, p1, p2, Sem.run_pure]
        exact this
      · cases hl
    · rename_i hty
      split at hf <;> try (cases hf; done)
      rename_i ks' hks
      cases hf
      unfold keyL at hl
      split at hl <;> rename_i he1 <;> try (cases he1; done)
      · cases he1
        obtain ⟨⟨u, h1, h2⟩, h3⟩ := tl _ _ hu
        have h2 : u = _ := h2
        have p1 := fun w => show (part f.type vs f.offset).run P w = .ok u w from by simp [part, Sem.run_bind, run_isAgg hty, hn2, TypeDesc.isRow, h1]
        have p2 := fun w => show (checkKey e (n + 1) f.type u).run P w = .ok () w from by rw [h2, checkKey]; simp [run_underlying hty]
        have := ih hl (k + 1) h3 hks
        simp only [List.forIn_cons, Sem.run_bind, hn1, ne_eq, not_false_eq_true, if_true, Result.andThen_ok, p1, p2, Sem.run_pure]
        exact this
      · cases hl
    · rename_i hty
      split at hf <;> try (cases hf; done)
      rename_i ks' hks
      cases hf
      unfold keyL at hl
      split at hl <;> rename_i he1 <;> try (cases he1; done)
      · cases he1
        obtain ⟨⟨u, h1, h2⟩, h3⟩ := tl _ _ hu
        have h2 : u = _ := h2
        have p1 := fun w => show (part f.type vs f.offset).run P w = .ok u w from by simp [part, Sem.run_bind, run_isAgg hty, hn2, TypeDesc.isRow, h1]
        have p2 := fun w => show (checkKey e (n + 1) f.type u).run P w = .ok () w from by rw [h2, checkKey]; simp [run_underlying hty]
        have := ih hl (k + 1) h3 hks
        simp only [List.forIn_cons, Sem.run_bind, hn1, ne_eq, not_false_eq_true, if_true, Result.andThen_ok, p1, p2, Sem.run_pure]
        exact this
      · cases hl
    · cases hf
theorem g_mlook0 {t kt et : TypeId} {fs : Array Field} {ks : List EK} {i : TypeInfo} {z : Value} (ht : P.underlying t = some (.map kt et)) (hk : P.underlying kt = some (.struct fs)) (hf : fldKinds P fs.toList 0 = some ks) (hi : P.info? et = some i) (hz : i.zero = some z) {ok : Bool} {a x : AV} {u v : Value} (h : VR c a u) (hx : VR c x v) :
    Gives P (Instr.lookup t u v ok) c (mlook0A ks z ok a x) nb := by
  unfold mlook0A
  split
  · rename_i l
    obtain ⟨us, rfl, hl⟩ := hx
    split
    · rename_i id
      obtain ⟨b, hφ, rfl⟩ := h
      refine Gives.look fun hr o ho => ?_
      obtain ⟨y, e, cells⟩ := o
      simp only
      split
      · rename_i he
        obtain ⟨⟨rfl, rfl⟩, hkl⟩ := he
        obtain ⟨es, clock, hb, _, _, hv⟩ := hr.mapAt ho hφ
        have he : es = #[] := by
          have := (VRl_iff.1 hv).1
          rw [flatM_length] at this
          exact Array.eq_empty_of_size_eq_zero (by simp at this; omega)
        subst he
        have hg : (getObj b).run P c.w = .ok (.map #[] clock) c.w := by simp [getObj, Sem.run, hb]
        have hc : (checkKey true 10000 kt (.agg us.toArray)).run P c.w = .ok () c.w := run_checkKey_L (n := 9998) hk hf hkl hl c.w
        have hfk : (findKey kt (.agg us.toArray) []).run P c.w = .ok none c.w := by simp [findKey, run_underlying hk, findNow]
        have hrun : (Instr.lookup t (.map (some b)) (.agg us.toArray) ok).run P c.w = .ok (if ok then .tuple #[z, .bool false] else z) c.w := by
          simp only [Instr.lookup, Sem.run_bind, run_underlying ht, Result.andThen_ok, hg, Sem.run_pure]
          rw [show (#[] : Array MapEntry).isEmpty = true from rfl, hc, Result.andThen_ok, hfk]
          simp [zeroValue, typeInfo, hi, hz]
        cases ok
        · exact Gives.pure hrun rfl
        · exact Gives.pure hrun ⟨[z, .bool false], rfl, _, _, rfl, rfl, _, _, rfl, rfl, rfl⟩
      · exact Gives.fail
    · exact Gives.fail
  · exact Gives.fail
end Go.Proofs.YtonglhkiobibgaaGreatDoor
namespace Go.Proofs.YtonglhkiobibgaaGreatDoor
open Go.RowKit
variable {P : Program} {c : Cx} {nb : Nat}

theorem list_one {α : Type} {a : Array α} {x : α} (h : a.toList = [x]) : a = #[x] := Array.ext' (by simpa using h)
theorem list_two {α : Type} {a : Array α} {x y : α} (h : a.toList = [x, y]) : a = #[x, y] := Array.ext' (by simpa using h)
set_option maxRecDepth 4000 in
theorem eff_sound {o : Oper} {ao : AO} (h : compOp P o = some ao) {ρ : Operand → AV} {ev : Operand → Value} (hv : ∀ x, VR c (ρ x) (ev x)) (hk : ∀ z, ev (.const z) = z) : GivesN P (execOp ev o) c (eff ρ nb ao) nb := by
  obtain ⟨dst, op, ty, pos, after, guard⟩ := o
  cases op <;> simp only [compOp] at h
  case move x => cases h; exact GivesN.value (fun w => by simp [execOp]) (hv x)
  case assign x => cases h; exact GivesN.value (fun w => by simp [execOp]) (hv x)
  case pick a b d =>
    cases h
    simp only [eff, pickA]
    have := hv a
    cases hc : ρ a with
    | v q =>
      rw [hc] at this
      have e : ev a = q := this
      cases q with
      | bool t =>
        simp only
        refine GivesN.value (v := if t = true then ev b else ev d) (fun w => by simp [execOp, e, asBool]) ?_
        cases t
        · simpa using hv d
        · simpa using hv b
      | _ => exact GivesN.fail
    | _ => exact GivesN.fail
  case alloc t =>
    split at h
    · rename_i i hi
      split at h
      · rename_i z hz
        split at h
        · rename_i h1
          cases h
          exact GivesN.of (g_new h1.2 hi hz h1.1)
        · cases h
      · cases h
    · cases h
  case box t x =>
    split at h
    · cases h
    · rename_i h1; cases h; exact GivesN.of (g_box h1 (hv x))
  case build t ps =>
    split at h
    · rename_i i hi
      split at h
      · rename_i z hz
        split at h
        · rename_i fs hu
          split at h
          · rename_i l hl
            split at h
            · rename_i q hq
              split at h
              · rename_i h1
                cases h
                exact GivesN.of (g_build hi hz hu hl hq h1 ρ ev hv)
              · cases h
            · cases h
          · cases h
        · cases h
      · cases h
    · cases h
  case load t a =>
    split at h
    · rename_i i hi
      split at h
      · rename_i d hu
        cases h
        exact GivesN.of (g_load hu hi (hv a))
      · cases h
    · cases h
  case store t a x =>
    split at h
    · rename_i i hi
      cases h
      exact GivesN.skip (g_store hi (hv a) (hv x))
    · cases h
  case fieldAddr s a k =>
    split at h
    · rename_i fs hu
      split at h
      · rename_i f hf
        split at h
        · rename_i i hi
          split at h
          · cases h
          · rename_i h0
            cases h
            exact GivesN.of (g_foff hu hf hi h0 (hv a))
        · cases h
      · cases h
    · cases h
  case field s x k =>
    split at h
    · rename_i fs hu
      split at h
      · rename_i f hf
        split at h
        · rename_i i hi
          split at h
          · rename_i d hd
            cases h
            exact GivesN.of (g_fld hu hf hi hd (hv x))
          · cases h
        · cases h
      · cases h
    · cases h
  case indexAddr t x i =>
    split at h
    · rename_i e hu
      split at h
      · rename_i j hj
        cases h
        exact GivesN.of (g_idx hu hj (hv x) (hv i))
      · cases h
    · rename_i n e hu
      split at h
      · rename_i j hj
        cases h
        exact GivesN.of (g_aidx hu hj (hv x) (hv i))
      · cases h
    · cases h
  case index t x i =>
    split at h
    · rename_i hu
      cases h
      exact GivesN.of (g_sidx hu (hv x) (hv i))
    · cases h
  case makeMap t r =>
    cases r with
    | none => cases h; exact GivesN.of (g_mkmap)
    | some _ => cases h
  case lookup t x k ok =>
    split at h
    · rename_i kt et hu
      split at h
      · rename_i q hk
        split at h
        · rename_i i hi
          split at h
          · rename_i z hz
            cases h
            exact GivesN.of (g_mlook hu hk hi hz (hv x) (hv k))
          · cases h
        · cases h
      · rename_i fs hk
        split at h
        · rename_i ks hf
          split at h
          · rename_i i hi
            split at h
            · rename_i z hz
              cases h
              exact GivesN.of (g_mlook0 hu hk hf hi hz (hv x) (hv k))
            · cases h
          · cases h
        · cases h
      · cases h
    · cases h
  case mapUpdate t m k v =>
    split at h
    · rename_i kt et hu
      split at h
      · rename_i q hk
        cases h
        exact GivesN.skip (g_mupd hu hk (hv m) (hv k) (hv v))
      · cases h; exact GivesN.fail
      · cases h
    · cases h
  case makeInterface t x =>
    split at h
    · cases h
    · rename_i d hne hu
      cases h
      exact GivesN.of (g_mkif hu (fun ms e => hne ms e) (hv x))
    · cases h
  case panic x => cases h; exact GivesN.fail
  case binOp op t x y ty' =>
    split at h
    · cases h; exact GivesN.of (g_bin (hv x) (hv y))
    · cases h; exact GivesN.of (g_bin (hv x) (hv y))
    · rename_i hu
      split at h
      · cases h; exact GivesN.of (g_beq (.inl ⟨rfl, rfl⟩) hu (hv x) (hv y))
      · cases h; exact GivesN.of (g_beq (.inr ⟨rfl, rfl⟩) hu (hv x) (hv y))
      · cases h
    · unfold compEq at h
      split at h
      · obtain ⟨ks, rfl, hg⟩ := g_eqs (c := c) (nb := nb) (x0 := x) (y0 := y) (.inl ⟨rfl, rfl⟩) h (hv x) (hv y)
        exact GivesN.of hg
      · obtain ⟨ks, rfl, hg⟩ := g_eqs (c := c) (nb := nb) (x0 := x) (y0 := y) (.inr ⟨rfl, rfl⟩) h (hv x) (hv y)
        exact GivesN.of hg
      · cases h
    · rename_i d _ _ _ _ hu
      split at h
      · rename_i z hz
        obtain ⟨rfl, hd⟩ := isNilC_spec hz
        have hd' : ((∃ e, P.underlying t = some (.slice e)) ∧ z = .slice none 0 0) ∨ (∃ e, P.underlying t = some (.pointer e)) ∧ z = .pointer none ∨ (∃ e, P.underlying t = some (.interface e)) ∧ z = .nilIface := by
          rcases hd with ⟨⟨e, rfl⟩, h2⟩ | ⟨⟨e, rfl⟩, h2⟩ | ⟨⟨e, rfl⟩, h2⟩
          · exact .inl ⟨⟨e, hu⟩, h2⟩
          · exact .inr (.inl ⟨⟨e, hu⟩, h2⟩)
          · exact .inr (.inr ⟨⟨e, hu⟩, h2⟩)
        split at h
        · cases h
          refine GivesN.of ?_
          rw [hk]
          exact g_isnil (.inl ⟨rfl, rfl⟩) hd' rfl (hv x)
        · cases h
          refine GivesN.of ?_
          rw [hk]
          exact g_isnil (.inr ⟨rfl, rfl⟩) hd' rfl (hv x)
        · cases h
      · cases h
    · cases h
  case unOp op t x => cases h; exact GivesN.of (g_un (hv x))
  case convert s d x =>
    split at h
    · rename_i hs
      split at h
      · rename_i hd
        cases h
        exact GivesN.of (g_conv hs hd (hv x))
      · cases h
    · rename_i hs
      split at h
      · rename_i e hd
        split at h
        · rename_i he
          cases h
          exact GivesN.of (g_s2b hs hd he (hv x))
        · cases h
      · cases h
    · rename_i hs
      split at h
      · rename_i he
        split at h
        · rename_i hd
          cases h
          exact GivesN.of (g_b2s hs he hd (hv x))
        · rename_i hd
          split at h
          · rename_i hsd
            cases h
            subst hsd
            exact GivesN.of (g_sconv hs he (hv x))
          · cases h
        · cases h
      · cases h
    · cases h
  case extract x i => cases h; exact GivesN.of (g_ext (hv x))
  case nilCheck x =>
    cases h
    simp only [eff, nilA]
    have := hv x
    cases hc : ρ x with
    | op id off =>
      rw [hc] at this
      obtain ⟨b, h1, h2, h3⟩ := this
      exact GivesN.value (v := ev x) (fun w => by simp [execOp, h2]) ⟨b, h1, h2, h3⟩
    | fp fr cs off =>
      rw [hc] at this
      obtain ⟨b, o, h2, h3⟩ := this
      exact GivesN.value (v := ev x) (fun w => by simp [execOp, h2]) ⟨b, o, h2, h3⟩
    | _ => exact GivesN.fail
  case slice t x lo hi mx =>
    split at h
    · split at h
      · rename_i e hu
        split at h
        · rename_i j hj
          cases h
          exact GivesN.of (g_slice hu hj (hv x) (opt_map hv lo).1 (opt_map hv lo).2 (opt_map hv hi).1 (opt_map hv hi).2)
        · cases h
      · rename_i hu
        cases h
        exact GivesN.of (g_sslice hu (hv x) (opt_map hv lo).1 (opt_map hv lo).2 (opt_map hv hi).1 (opt_map hv hi).2)
      · cases h
    · split at h
      · split at h
        · rename_i e hu
          split at h
          · rename_i j hj
            split at h
            · cases h
            · rename_i hne
              cases h
              have := GivesN.of (g_slice0 (P := P) (c := c) (nb := nb) hne hu hj (hv x))
              simpa [execOp, hk, eff] using this
          · cases h
        · cases h
      · cases h
  case makeSlice t n cc =>
    split at h
    · rename_i e hu
      split at h
      · rename_i j hj
        split at h
        · rename_i z hz
          split at h
          · rename_i hh
            cases h
            exact GivesN.of (g_mksl hh.2.2 hu hj hz hh.1 hh.2.1 (hv n) (hv cc))
          · cases h
        · cases h
      · cases h
    · cases h
  case buildSlice t n ps =>
    split at h
    · rename_i e hu
      split at h
      · rename_i j hj
        split at h
        · rename_i z hz
          split at h
          · rename_i hh
            cases h
            exact GivesN.of (g_bslice hh.2.2.2.2 hu hj hz ⟨hh.1, hh.2.1, hh.2.2.1, hh.2.2.2.1⟩ ρ ev hv)
          · cases h
        · cases h
      · cases h
    · cases h
  case makeFunc fn first caps =>
    cases fn <;> simp only at h
    case func f =>
      split at h
      · rename_i h0
        cases h
        have hf : first = #[] := Array.eq_empty_of_size_eq_zero h0
        subst hf
        refine GivesN.value (v := .func (.func f) #[] (caps.map ev)) (fun w => by simp [execOp, Instr.makeFunc]) ⟨caps.toList.map ev, by congr 1; apply Array.ext'; simp, VRt_map hv _⟩
      · cases h
    all_goals cases h
  case call cl =>
    obtain ⟨callee, args, ats⟩ := cl
    cases callee <;> simp only at h
    case value f =>
      cases f <;> simp only at h <;> cases h <;> exact GivesN.fail
    case builtin b =>
      cases b <;> (try simp only at h)
      case len =>
        split at h
        · rename_i t x ht hx
          have e1 := list_one ht
          have e2 := list_one hx
          split at h
          · rename_i hu
            cases h
            have := GivesN.of (g_len (P := P) (c := c) (nb := nb) (ty := ty) hu (hv x))
            simpa [execOp, resolve, invoke, builtin, e1, e2, eff] using this
          · rename_i hu
            cases h
            have := GivesN.of (g_slen (P := P) (c := c) (nb := nb) (ty := ty) hu (hv x))
            simpa [execOp, resolve, invoke, builtin, e1, e2, eff] using this
          · rename_i hu
            cases h
            have := GivesN.of (g_mlen (P := P) (c := c) (nb := nb) (ty := ty) hu (hv x))
            simpa [execOp, resolve, invoke, builtin, e1, e2, eff] using this
          · cases h
        · cases h
      case append =>
        split at h
        · rename_i t u x y ht hx
          have e1 := list_two ht
          have e2 := list_two hx
          split at h
          · rename_i e hu
            split at h
            · rename_i e' hu'
              split at h
              · rename_i j hj
                split at h
                · rename_i z hz
                  split at h
                  · rename_i hh
                    cases h
                    have := GivesN.of (g_src (P := P) (c := c) (nb := nb) hu' (hv y) (s := Builtin.append_ #[t, u] ty #[ev x, ev y]) (k := appA nb e j.size j.bytes (ρ x)) (fun _ m l news hs hl => g_appA hh.2 hu hj hz hh.1.1 hh.1.2 (hv x) hs hl))
                    simpa [execOp, resolve, invoke, builtin, e1, e2, eff] using this
                  · cases h
                · cases h
              · cases h
            · rename_i hu'
              split at h
              · rename_i j hj
                split at h
                · rename_i z hz
                  split at h
                  · rename_i hh
                    cases h
                    have := GivesN.of (g_appz (P := P) (c := c) (nb := nb) (ty := ty) hh.2 hu hu' hj hz hh.1.1.1 hh.1.1.2 hh.1.2.1 hh.1.2.2 (hv x) (hv y))
                    simpa [execOp, resolve, invoke, builtin, e1, e2, eff] using this
                  · cases h
                · cases h
              · cases h
            · cases h
          · cases h
        · cases h
      case cap =>
        split at h
        · rename_i t x ht hx
          have e1 := list_one ht
          have e2 := list_one hx
          split at h
          · rename_i hu
            cases h
            have := GivesN.of (g_cap (P := P) (c := c) (nb := nb) (ty := ty) hu (hv x))
            simpa [execOp, resolve, invoke, builtin, e1, e2, eff] using this
          · cases h
        · cases h
      case copy =>
        split at h
        · rename_i t u x y ht hx
          have e1 := list_two ht
          have e2 := list_two hx
          split at h
          · rename_i e hu
            split at h
            · rename_i e' hu'
              split at h
              · rename_i j hj
                split at h
                · rename_i h1
                  cases h
                  have := GivesN.of (g_src2 (P := P) (c := c) (nb := nb) (hv y) (s := Builtin.copy_ #[t, u] ty #[ev x, ev y]) (k := copyA (ρ x)) (fun _ m l news hs hl => g_copy hu hj h1 (hv x) hs hl))
                  simpa [execOp, resolve, invoke, builtin, e1, e2, eff] using this
                · cases h; exact GivesN.fail
              · cases h
            · cases h
          · cases h
        · cases h
      case clear => cases h; exact GivesN.fail
      case min =>
        obtain ⟨x, y, hx, ⟨_, rfl⟩ | ⟨h1, _⟩⟩ := compBi_spec h
        · have := GivesN.of (g_mm (P := P) (c := c) (nb := nb) (ats := ats) (ty := ty) (mx := false) (hv x) (hv y))
          simpa [execOp, resolve, invoke, builtin, list_two hx, eff] using this
        · cases h1
      case max =>
        obtain ⟨x, y, hx, ⟨h1, _⟩ | ⟨_, rfl⟩⟩ := compBi_spec h
        · cases h1
        · have := GivesN.of (g_mm (P := P) (c := c) (nb := nb) (ats := ats) (ty := ty) (mx := true) (hv x) (hv y))
          simpa [execOp, resolve, invoke, builtin, list_two hx, eff] using this
      all_goals (obtain ⟨x, y, hx, ⟨h1, _⟩ | ⟨h1, _⟩⟩ := compBi_spec h <;> cases h1)
    case invoke _ _ => cases h
  all_goals cases h
end Go.Proofs.YtonglhkiobibgaaGreatDoor
namespace Go.Proofs.YtonglhkiobibgaaGreatDoor
open Go.RowKit
variable {P : Program}

theorem fillA_congr {ρ ρ' : Operand → AV} : ∀ {q : List (Nat × Nat × Operand)} {l : List AV}, (∀ o n x, (o, n, x) ∈ q → ρ x = ρ' x) → fillA ρ l q = fillA ρ' l q
  | [], l, _ => rfl
  | (o, n, x) :: q, l, h => by
    rw [fillA, fillA, h o n x (by simp)]
    split
    · split
      · exact fillA_congr (fun o n x hx => h o n x (by simp [hx]))
      · rfl
    · rfl
theorem partsOf_mem {l : List (Nat × Nat)} : ∀ {ps : List (Nat × Operand)} {q : List (Nat × Nat × Operand)}, partsOf l ps = some q → ∀ o n x, (o, n, x) ∈ q → ∃ i, (i, x) ∈ ps
  | [], q, h, o, n, x, hx => by simp [partsOf] at h; subst h; simp at hx
  | (i, y) :: ps, q, h, o, n, x, hx => by
    rw [partsOf] at h
    split at h
    · split at h
      · rename_i q' hq
        simp at h
        subst h
        rcases List.mem_cons.1 hx with e | e
        · cases e; exact ⟨i, by simp⟩
        · obtain ⟨k, hk⟩ := partsOf_mem hq o n x e; exact ⟨k, by simp [hk]⟩
      · cases h
    · cases h
/-- an operation looks at its operands alone -/
theorem eff_congr {o : Oper} {ao : AO} (h : compOp P o = some ao) {ρ ρ' : Operand → AV} (hρ : ∀ x ∈ o.op.operands, ρ x = ρ' x) (nb : Nat) : eff ρ nb ao = eff ρ' nb ao := by
  obtain ⟨dst, op, ty, pos, after, guard⟩ := o
  cases op <;> simp only [compOp, compEq, compEqs] at h
  case build t ps =>
    (repeat' split at h) <;> first
      | (cases h; done)
      | (rename_i q hq _; cases h; simp only [eff]; rw [fillA_congr (ρ := ρ) (ρ' := ρ') fun o n x hx => ?_]; obtain ⟨i, hi⟩ := partsOf_mem hq o n x hx; exact hρ x (by simp [Op.operands]; exact ⟨i, by simpa using hi⟩))
  case buildSlice t n ps =>
    (repeat' split at h) <;> first
      | (cases h; done)
      | (cases h; simp only [eff]; rw [fillA_congr (ρ := ρ) (ρ' := ρ') fun o n x hx => ?_]; obtain ⟨⟨i, y⟩, hi, e⟩ := List.mem_map.1 hx; cases e; exact hρ y (by simp [Op.operands]; exact ⟨i, by simpa using hi⟩))
  case slice t x lo hi mx =>
    have e0 : ρ x = ρ' x := hρ x (by cases lo <;> cases hi <;> cases mx <;> simp [Op.operands])
    (repeat' split at h) <;> first
      | (cases h; done)
      | (cases h; simp only [eff, e0]; done)
      | (cases h; simp only [eff]; rw [e0]; cases lo <;> cases hi <;> simp [Op.operands] at hρ ⊢ <;> simp [hρ])
  case makeFunc fn first caps =>
    cases fn <;> simp only at h
    case func f =>
      split at h
      · cases h; simp only [eff]; rw [List.map_congr_left fun x hx => hρ x (by simp [Op.operands]; exact .inr (by simpa using hx))]
      · cases h
    all_goals cases h
  case call cl =>
    obtain ⟨callee, args, ats⟩ := cl
    cases callee <;> simp only at h
    case value f => cases f <;> simp only at h <;> cases h <;> rfl
    case invoke => cases h
    case builtin b =>
      cases b <;> (try simp only at h)
      case len =>
        split at h
        · rename_i t x ht hx
          have e := list_one hx
          subst e
          have e1 := hρ x (by simp [Op.operands, Call.operands])
          split at h <;> first | (cases h; done) | (cases h; simp [eff, e1])
        · cases h
      case cap =>
        split at h
        · rename_i t x ht hx
          have e := list_one hx
          subst e
          have e1 := hρ x (by simp [Op.operands, Call.operands])
          split at h <;> first | (cases h; done) | (cases h; simp [eff, e1])
        · cases h
      case copy =>
        split at h
        · rename_i t u x y ht hx
          have e := list_two hx
          subst e
          have e1 := hρ x (by simp [Op.operands, Call.operands])
          have e2 := hρ y (by simp [Op.operands, Call.operands])
          (repeat' split at h) <;> first | (cases h; done) | (cases h; simp [eff, e1, e2])
        · cases h
      case clear => cases h; rfl
      case append =>
        split at h
        · rename_i t u x y ht hx
          have e := list_two hx
          subst e
          have e1 := hρ x (by simp [Op.operands, Call.operands])
          have e2 := hρ y (by simp [Op.operands, Call.operands])
          (repeat' split at h) <;> first | (cases h; done) | (cases h; simp [eff, e1, e2])
        · cases h
      all_goals
        obtain ⟨x, y, hx, ⟨_, rfl⟩ | ⟨_, rfl⟩⟩ := compBi_spec h
        all_goals
          have e := list_two hx
          subst e
          have e1 := hρ x (by simp [Op.operands, Call.operands])
          have e2 := hρ y (by simp [Op.operands, Call.operands])
          simp [eff, e1, e2]
  all_goals first
    | (cases h; done)
    | (cases h; simp [Op.operands] at hρ; simp [eff, hρ]; done)
    | ((repeat' split at h) <;> first | (cases h; done) | (cases h; simp [Op.operands] at hρ; simp [eff, hρ]; done))
end Go.Proofs.YtonglhkiobibgaaGreatDoor
