/- Merged texts: L0, L1, D0, F0, M0, F1, F2, F3, G0, F4. -/
import Derived.WalkKit
import Derived.Below
import Derived.KernelRfl
import Derived.OwnWalk
import Derived.WalkSpells
import Derived.Lib.Hide
import Derived.Deep.LoopGhost
import Derived.Deep.QuietTactic
import Derived.BigQuiet
import Derived.Deep.RegionHeld3
import Derived.Deep.DeepCutAuto
import Derived.Deep.CutBlock
import Derived.Maps.AppendAt
import Derived.Test.YtfoeddmbhmfjcaaProg
set_option linter.unusedSimpArgs false
set_option linter.unusedVariables false
/- Words of this session: what a value's cells say of plain data (Ty), read and made rows; no program in sight. -/
namespace Go.Proofs.Ytfoeddmbhmfjcaa
open Go.RowKit

def reachB : Nat := 140737488351232

/-- What cells say: 'rep w P x cs': the cells cs read as x in the world w; all blocks that they lead to are P's. -/
structure Ty (α : Type) where
  sz : Nat
  pos : 0 < sz
  rep : World → (Nat → Prop) → α → List Value → Prop
  len : ∀ {w P x cs}, rep w P x cs → cs.length = sz
  one : ∀ {w P x cs}, rep w P x cs → ∀ u ∈ cs, u.oneCell' = true
  mono : ∀ {w x cs} {P Q : Nat → Prop}, (∀ k, P k → k < w.heap.size → Q k) → rep w P x cs → rep w Q x cs
  frame : ∀ {w w1 : World} {P x cs}, (∀ k, P k → k < w.heap.size → w1.heap[k]? = w.heap[k]?) → rep w P x cs → rep w1 P x cs

theorem lt_of_heap {w : World} {k : Nat} {o : Obj} (h : w.heap[k]? = some o) : k < w.heap.size := by
  rw [Array.getElem?_eq_some_iff] at h; exact h.1
theorem lt_of_cell {w : World} {p : Addr} {v : Value} (h : w.cell? p = some v) : p.block < w.heap.size := World.block_lt_of_cell? w p h

/-- a block that stays, and its cells -/
theorem heap_alloc {w : World} {b : Nat} {o : Obj} (h : w.heap[b]? = some o) (o' : Obj) : (w.alloc o').heap[b]? = some o := (Below.heap_alloc w o' b (lt_of_heap h)).trans h
theorem heap_below {w w1 : World} {b : Nat} {o : Obj} (hb : Below w.heap.size w w1) (h : w.heap[b]? = some o) : w1.heap[b]? = some o := (hb.block b (lt_of_heap h)).trans h
theorem heap_grown {w w1 : World} {b : Nat} {o : Obj} {row : Option Nat} (hg : w.grownBy w1 row) (hne : some b ≠ row) (h : w.heap[b]? = some o) : w1.heap[b]? = some o := (hg.block b (lt_of_heap h) hne).trans h
theorem cell_of {w : World} {b : Nat} {cs : Array Value} {t : TypeId} {fr : Nat × Nat} (h : w.heap[b]? = some (.cells cs t fr)) (j : Nat) {v : Value} (hv : cs[j]? = some v) : w.cell? ⟨b, j, none⟩ = some v := by
  simp [World.cell?, h, hv]
theorem frozen_of {w : World} {b : Nat} {cs : Array Value} {t : TypeId} (h : w.heap[b]? = some (.cells cs t (0, 0))) (j : Nat) : w.frozen? ⟨b, j, none⟩ = false := by
  simp [World.frozen?, h]
theorem bool_v {a b : Bool} (h : a = true ↔ b = true) : Value.bool a = .bool b := by rw [Bool.eq_iff_iff.2 h]
theorem ret_bool {a b : Bool} (h : a = true ↔ b = true) : Ending.returned (.bool a) = .returned (.bool b) := by rw [Bool.eq_iff_iff.2 h]
theorem ret_int {k : IntKind} {a b : Int} (h : a = b) : Ending.returned (.int k a) = .returned (.int k b) := by rw [h]
theorem grown_below {w w1 : World} {row : Option Nat} (hg : w.grownBy w1 row) {B : Nat} (hB : B ≤ w.heap.size) (h : ∀ k, row = some k → B ≤ k) : Below B w w1 := (Below.refl B w).grown hg hB h
namespace Ty
def int (k : IntKind) : Ty Int where
  sz := 1
  pos := by decide
  rep := fun _ _ x cs => cs = [.int k x] ∧ (Lit.int k x).wf = true
  len := by rintro w P x cs ⟨rfl, _⟩; rfl
  one := by rintro w P x cs ⟨rfl, _⟩ u hu; simp at hu; subst hu; rfl
  mono := fun _ h => h
  frame := fun _ h => h
def bool : Ty Bool where
  sz := 1
  pos := by decide
  rep := fun _ _ x cs => cs = [.bool x]
  len := by rintro w P x cs rfl; rfl
  one := by rintro w P x cs rfl u hu; simp at hu; subst hu; rfl
  mono := fun _ h => h
  frame := fun _ h => h
def str : Ty ByteArray where
  sz := 1
  pos := by decide
  rep := fun _ _ x cs => cs = [.string x] ∧ x.size ≤ reachB
  len := by rintro w P x cs ⟨rfl, _⟩; rfl
  one := by rintro w P x cs ⟨rfl, _⟩ u hu; simp at hu; subst hu; rfl
  mono := fun _ h => h
  frame := fun _ h => h
/-- The elements' cells behind an address. -/
def C {α : Type} (T : Ty α) (w : World) (P : Nat → Prop) (A : Option Addr) (xs : List α) : Prop :=
  0 < xs.length → ∃ b off, A = some ⟨b, off, none⟩ ∧ P b ∧ ∀ i x, xs[i]? = some x → ∃ cs, T.rep w P x cs ∧ ∀ j u, cs[j]? = some u → w.cell? ⟨b, off + i * T.sz + j, none⟩ = some u
section
variable {α : Type} {T : Ty α} {w w1 : World} {P Q : Nat → Prop} {A : Option Addr} {xs : List α}
theorem C_mono (h : ∀ k, P k → k < w.heap.size → Q k) (c : T.C w P A xs) : T.C w Q A xs := by
  intro hn
  obtain ⟨b, off, rfl, hb, hc⟩ := c hn
  refine ⟨b, off, rfl, ?_, fun i x hx => ?_⟩
  · obtain ⟨cs, hr, hcc⟩ := hc 0 xs[0] (by simp)
    have hl := T.len hr
    have hs := T.pos
    have := lt_of_cell (hcc 0 cs[0] (by simp))
    exact h b hb this
  · obtain ⟨cs, hr, hcc⟩ := hc i x hx
    exact ⟨cs, T.mono h hr, hcc⟩
theorem C_frame (h : ∀ k, P k → k < w.heap.size → w1.heap[k]? = w.heap[k]?) (c : T.C w P A xs) : T.C w1 P A xs := by
  intro hn
  obtain ⟨b, off, rfl, hb, hc⟩ := c hn
  refine ⟨b, off, rfl, hb, fun i x hx => ?_⟩
  obtain ⟨cs, hr, hcc⟩ := hc i x hx
  refine ⟨cs, T.frame h hr, fun j u hu => ?_⟩
  have h1 := hcc j u hu
  have := lt_of_cell h1
  rw [World.cell?_of_block (w := w) (h b hb this)]
  exact h1
end
/-- A slice as one cell; 'B': an element's octets. -/
def slice {α : Type} (B : Nat) (T : Ty α) : Ty (List α) where
  sz := 1
  pos := by decide
  rep := fun w P xs cs => ∃ A c, cs = [.slice A xs.length c] ∧ xs.length ≤ c ∧ xs.length * B ≤ reachB ∧ T.C w P A xs
  len := by rintro w P x cs ⟨A, c, rfl, _⟩; rfl
  one := by rintro w P x cs ⟨A, c, rfl, _⟩ u hu; simp at hu; subst hu; rfl
  mono := by rintro w x cs P Q h ⟨A, c, rfl, h1, h2, h3⟩; exact ⟨A, c, rfl, h1, h2, C_mono h h3⟩
  frame := by rintro w w1 P x cs h ⟨A, c, rfl, h1, h2, h3⟩; exact ⟨A, c, rfl, h1, h2, C_frame h h3⟩
def pair {α β : Type} (S : Ty α) (T : Ty β) : Ty (α × β) where
  sz := S.sz + T.sz
  pos := Nat.lt_of_lt_of_le S.pos (Nat.le_add_right _ _)
  rep := fun w P x cs => ∃ c1 c2, cs = c1 ++ c2 ∧ S.rep w P x.1 c1 ∧ T.rep w P x.2 c2
  len := by rintro w P x cs ⟨c1, c2, rfl, h1, h2⟩; rw [List.length_append, S.len h1, T.len h2]
  one := by
    rintro w P x cs ⟨c1, c2, rfl, h1, h2⟩ u hu
    rcases List.mem_append.1 hu with h | h
    · exact S.one h1 u h
    · exact T.one h2 u h
  mono := by rintro w x cs P Q h ⟨c1, c2, rfl, h1, h2⟩; exact ⟨c1, c2, rfl, S.mono h h1, T.mono h h2⟩
  frame := by rintro w w1 P x cs h ⟨c1, c2, rfl, h1, h2⟩; exact ⟨c1, c2, rfl, S.frame h h1, T.frame h h2⟩
def iso {α β : Type} (T : Ty α) (f : β → α) : Ty β where
  sz := T.sz
  pos := T.pos
  rep := fun w P x cs => T.rep w P (f x) cs
  len := T.len
  one := T.one
  mono := T.mono
  frame := T.frame
section
variable {α : Type} {T : Ty α} {w w1 : World} {P Q : Nat → Prop} {A : Option Addr} {xs : List α}
theorem below {x : α} {cs : List Value} (h : T.rep w P x cs) (hb : Below w.heap.size w w1) : T.rep w1 P x cs := T.frame (fun k _ hk => hb.block k hk) h
theorem lt {x : α} {cs : List Value} (h : T.rep w P x cs) : T.rep w (fun k => P k ∧ k < w.heap.size) x cs := T.mono (fun _ h1 h2 => ⟨h1, h2⟩) h
theorem C_below (h : T.C w P A xs) (hb : Below w.heap.size w w1) : T.C w1 P A xs := C_frame (fun k _ hk => hb.block k hk) h
theorem C_lt (h : T.C w P A xs) : T.C w (fun k => P k ∧ k < w.heap.size) A xs := C_mono (fun _ h1 h2 => ⟨h1, h2⟩) h
theorem C_nil : T.C w P A ([] : List α) := fun h => absurd h (by simp)
/-- element i's cells -/
theorem C_at (h : T.C w P A xs) {i : Nat} {x : α} (hi : xs[i]? = some x) : ∃ b off, A = some ⟨b, off, none⟩ ∧ P b ∧ ∃ cs, T.rep w P x cs ∧ ∀ j u, cs[j]? = some u → w.cell? ⟨b, off + i * T.sz + j, none⟩ = some u := by
  obtain ⟨b, off, rfl, hb, hc⟩ := h (by rw [List.getElem?_eq_some_iff] at hi; have := hi.1; omega)
  exact ⟨b, off, rfl, hb, hc i x hi⟩
theorem C_drop {b off : Nat} (h : T.C w P (some ⟨b, off, none⟩) xs) (n : Nat) : T.C w P (some ⟨b, off + n * T.sz, none⟩) (xs.drop n) := by
  intro hn
  rw [List.length_drop] at hn
  obtain ⟨b', off', e, hb, hc⟩ := h (by omega)
  injection e with e; injection e with e1 e2 e3
  subst e1; subst e2
  refine ⟨_, _, rfl, hb, fun i x hx => ?_⟩
  rw [List.getElem?_drop] at hx
  obtain ⟨cs, hr, hcc⟩ := hc (n + i) x hx
  refine ⟨cs, hr, fun j u hu => ?_⟩
  have := hcc j u hu
  rw [Nat.add_mul] at this
  rw [show off + n * T.sz + i * T.sz + j = off + (n * T.sz + i * T.sz) + j from by omega]
  exact this
theorem C_take (h : T.C w P A xs) (n : Nat) : T.C w P A (xs.take n) := by
  intro hn
  rw [List.length_take] at hn
  obtain ⟨b, off, rfl, hb, hc⟩ := h (by omega)
  refine ⟨b, off, rfl, hb, fun i x hx => ?_⟩
  rw [List.getElem?_take] at hx
  split at hx
  · exact hc i x hx
  · cases hx
end
/-- A row of the call's own, whose element j leads to blocks of P j, but not to the row itself. -/
def RowI {α : Type} (T : Ty α) (e : TypeId) (w : World) (B : Nat) (P : Nat → Nat → Prop) (v : Value) (xs : List α) : Prop :=
  ∃ cells, w.ownsRow B e T.sz v xs.length cells ∧ ∀ i x, xs[i]? = some x → ∃ cs, T.rep w (fun k => P i k ∧ some k ≠ v.ownBlock) x cs ∧ ∀ j u, cs[j]? = some u → cells[i * T.sz + j]? = some u
/-- A row of the call's own: it, and all it leads to, is P's. -/
def Row {α : Type} (T : Ty α) (e : TypeId) (w : World) (B : Nat) (P : Nat → Prop) (v : Value) (xs : List α) : Prop :=
  (∀ k, v.ownBlock = some k → P k) ∧ RowI T e w B (fun _ => P) v xs
section
variable {α : Type} {T : Ty α} {e : TypeId} {w w1 : World} {B : Nat} {P Q : Nat → Prop} {PI QI : Nat → Nat → Prop} {v : Value} {xs : List α}
theorem RowI_nil (T : Ty α) (e : TypeId) (w : World) (B : Nat) (P : Nat → Nat → Prop) : RowI T e w B P (.slice none 0 0) [] := ⟨[], ⟨by simp, .inl ⟨rfl, rfl⟩⟩, fun i x h => by simp at h⟩
theorem Row_nil (T : Ty α) (e : TypeId) (w : World) (B : Nat) (P : Nat → Prop) : Row T e w B P (.slice none 0 0) [] := ⟨fun k h => by simp [Value.ownBlock] at h, RowI_nil _ _ _ _ _⟩
theorem ownsRow_lt {n : Nat} {cells : List Value} {size : Nat} (h : w.ownsRow B e size v n cells) {k : Nat} (hk : v.ownBlock = some k) : B ≤ k ∧ k < w.heap.size := by
  rcases h.2 with ⟨rfl, _⟩ | ⟨g, cap, cur, rfl, hg, hh, _⟩
  · simp [Value.ownBlock] at hk
  · have : g = k := by simpa [Value.ownBlock] using hk
    subst this
    exact ⟨hg, lt_of_heap hh⟩
theorem RowI_lt (h : RowI T e w B PI v xs) {k : Nat} (hk : v.ownBlock = some k) : B ≤ k ∧ k < w.heap.size := by
  obtain ⟨cells, ho, _⟩ := h
  exact ownsRow_lt ho hk
theorem RowI_mono (h : RowI T e w B PI v xs) (hpq : ∀ i k, i < xs.length → PI i k → k < w.heap.size → QI i k) : RowI T e w B QI v xs := by
  obtain ⟨cells, ho, hc⟩ := h
  refine ⟨cells, ho, fun i x hx => ?_⟩
  obtain ⟨cs, hr, hcc⟩ := hc i x hx
  exact ⟨cs, T.mono (fun k hk hl => ⟨hpq i k (by rw [List.getElem?_eq_some_iff] at hx; exact hx.1) hk.1 hl, hk.2⟩) hr, hcc⟩
theorem Row_mono (h : Row T e w B P v xs) (hpq : ∀ k, P k → k < w.heap.size → Q k) : Row T e w B Q v xs :=
  ⟨fun k hk => hpq k (h.1 k hk) (RowI_lt h.2 hk).2, RowI_mono h.2 (fun _ k _ hk hl => hpq k hk hl)⟩
theorem Row_low {B' : Nat} (h : Row T e w B P v xs) (hb : B' ≤ B) : Row T e w B' P v xs := by
  obtain ⟨h0, cells, ho, hc⟩ := h
  refine ⟨h0, cells, ⟨ho.1, ?_⟩, hc⟩
  rcases ho.2 with h | ⟨g, cap, cur, h1, h2, h3⟩
  · exact .inl h
  · exact .inr ⟨g, cap, cur, h1, Nat.le_trans hb h2, h3⟩
theorem ownsRow_frame {n : Nat} {cells : List Value} {size : Nat} (h : w.ownsRow B e size v n cells) (hf : ∀ k, v.ownBlock = some k → w1.heap[k]? = w.heap[k]?) : w1.ownsRow B e size v n cells := by
  refine ⟨h.1, ?_⟩
  rcases h.2 with h | ⟨g, cap, cur, rfl, hg, hh, r⟩
  · exact .inl h
  · exact .inr ⟨g, cap, cur, rfl, hg, (hf g (by simp [Value.ownBlock])).trans hh, r⟩
theorem RowI_frame (h : RowI T e w B PI v xs) (h0 : ∀ k, v.ownBlock = some k → w1.heap[k]? = w.heap[k]?) (hf : ∀ i k, i < xs.length → PI i k → k < w.heap.size → some k ≠ v.ownBlock → w1.heap[k]? = w.heap[k]?) : RowI T e w1 B PI v xs := by
  obtain ⟨cells, ho, hc⟩ := h
  refine ⟨cells, ownsRow_frame ho h0, fun i x hx => ?_⟩
  obtain ⟨cs, hr, hcc⟩ := hc i x hx
  exact ⟨cs, T.frame (fun k hk hl => hf i k (by rw [List.getElem?_eq_some_iff] at hx; exact hx.1) hk.1 hl hk.2) hr, hcc⟩
theorem Row_frame (h : Row T e w B P v xs) (hf : ∀ k, P k → k < w.heap.size → w1.heap[k]? = w.heap[k]?) : Row T e w1 B P v xs :=
  ⟨h.1, RowI_frame h.2 (fun k hk => hf k (h.1 k hk) (RowI_lt h.2 hk).2) (fun _ k _ hk hl _ => hf k hk hl)⟩
theorem RowI_low {B' : Nat} (h : RowI T e w B PI v xs) (hb : B' ≤ B) : RowI T e w B' PI v xs := by
  obtain ⟨cells, ho, hc⟩ := h
  refine ⟨cells, ⟨ho.1, ?_⟩, hc⟩
  rcases ho.2 with h | ⟨g, cap, cur, h1, h2, h3⟩
  · exact .inl h
  · exact .inr ⟨g, cap, cur, h1, Nat.le_trans hb h2, h3⟩
theorem RowI_below (h : RowI T e w B PI v xs) (hb : Below w.heap.size w w1) : RowI T e w1 B PI v xs := RowI_frame h (fun k hk => hb.block k (RowI_lt h hk).2) (fun _ k _ _ hk _ => hb.block k hk)
/-- elements that lead to nothing -/
theorem RowI_flat (hT : ∀ w w' P Q x cs, T.rep w P x cs → T.rep w' Q x cs) (h : RowI T e w B PI v xs) : RowI T e w B QI v xs := by
  obtain ⟨cells, ho, hc⟩ := h
  refine ⟨cells, ho, fun i x hx => ?_⟩
  obtain ⟨cs, hr, hcc⟩ := hc i x hx
  exact ⟨cs, hT _ _ _ _ _ _ hr, hcc⟩
theorem Row_below (h : Row T e w B P v xs) (hb : Below w.heap.size w w1) : Row T e w1 B P v xs := Row_frame h (fun k _ hk => hb.block k hk)
theorem Row_slice (h : RowI T e w B PI v xs) : ∃ A c, v = .slice A xs.length c ∧ xs.length ≤ c := by
  obtain ⟨cells, ho, _⟩ := h
  rcases ho.2 with ⟨rfl, hn⟩ | ⟨g, cap, cur, rfl, hg, hh, hl, _⟩
  · exact ⟨none, 0, by rw [hn], by omega⟩
  · exact ⟨_, _, rfl, hl⟩
theorem RowI_C {A : Option Addr} {n c : Nat} (h : RowI T e w B PI (.slice A n c) xs) (hP : ∀ i k, i < xs.length → PI i k → k < w.heap.size → P k) (h0 : ∀ k, (Value.slice A n c).ownBlock = some k → P k) : T.C w P A xs := by
  intro hn
  obtain ⟨cells, ho, hc⟩ := h
  rcases ho.2 with ⟨e1, e2⟩ | ⟨g, cap, cur, e1, hg, hh, hl, hm, hcs, ht⟩
  · omega
  · injection e1 with e1 e2 e3
    subst e1
    refine ⟨g, 0, rfl, h0 g (by simp [Value.ownBlock]), fun i x hx => ?_⟩
    obtain ⟨cs, hr, hcc⟩ := hc i x hx
    have hi : i < xs.length := by rw [List.getElem?_eq_some_iff] at hx; exact hx.1
    refine ⟨cs, T.mono (fun k hk hl2 => hP i k hi hk.1 hl2) hr, fun j u hu => ?_⟩
    have h1 := hcc j u hu
    rw [← ht, List.getElem?_take] at h1
    split at h1
    · simp only [World.cell?, hh, Nat.zero_add]
      simpa using h1
    · cases h1
theorem Row_C {A : Option Addr} {n c : Nat} (h : Row T e w B P (.slice A n c) xs) : T.C w P A xs := RowI_C h.2 (fun _ _ _ hk _ => hk) h.1
/-- A made row, as a slice that is read. -/
theorem Row_rep {b : Nat} (h : Row T e w B P v xs) (hb : xs.length * b ≤ reachB) : (Ty.slice b T).rep w P xs [v] := by
  obtain ⟨A, c, rfl, hc⟩ := Row_slice h.2
  exact ⟨A, c, rfl, hc, hb, Row_C h⟩
end
end Ty
end Go.Proofs.Ytfoeddmbhmfjcaa
/- append and make upon rows of the call's own, in this session's words. -/
namespace Go.Proofs.Ytfoeddmbhmfjcaa
open Go.RowKit
namespace Ty
section
variable {P : Program} {α : Type} {T : Ty α} {e t : TypeId} {W : World} {B : Nat} {PI : Nat → Nat → Prop} {Pn : Nat → Prop} {v : Value} {xs ys : List α} {A : Option Addr} {c : Nat}
/-- the cells of a readable slice, one list -/
theorem C_cells {b off : Nat} (h : T.C W Pn (some ⟨b, off, none⟩) ys) : ∃ news : List Value, news.length = ys.length * T.sz ∧ (∀ j u, news[j]? = some u → W.cell? ⟨b, off + j, none⟩ = some u) ∧
    (∀ u ∈ news, u.oneCell' = true) ∧ ∀ i x, ys[i]? = some x → ∃ cs, T.rep W Pn x cs ∧ ∀ j u, cs[j]? = some u → news[i * T.sz + j]? = some u := by
  induction ys generalizing off with
  | nil => exact ⟨[], by simp, by simp, by simp, fun i x h => by simp at h⟩
  | cons y ys ih =>
    obtain ⟨b', off', e1, _, hc⟩ := h (by simp)
    injection e1 with e1; injection e1 with e1 e2 e3
    subst e1; subst e2
    have ht : T.C W Pn (some ⟨b, off + T.sz, none⟩) ys := by
      have := C_drop h 1
      simpa using this
    obtain ⟨news, h1, h2, h3, h4⟩ := ih ht
    obtain ⟨cs, hr, hcc⟩ := hc 0 y (by simp)
    have hl := T.len hr
    refine ⟨cs ++ news, by rw [List.length_append, hl, h1, List.length_cons, Nat.add_mul]; omega, ?_, ?_, ?_⟩
    · intro j u hu
      rw [List.getElem?_append] at hu
      split at hu
      · have := hcc j u hu
        simpa using this
      · have := h2 _ u hu
        rw [show off + j = off + T.sz + (j - cs.length) from by omega]
        exact this
    · intro u hu
      rcases List.mem_append.1 hu with hu | hu
      · exact T.one hr u hu
      · exact h3 u hu
    · intro i x hx
      cases i with
      | zero =>
        simp at hx
        subst hx
        refine ⟨cs, hr, fun j u hu => ?_⟩
        have hj : j < cs.length := by rw [List.getElem?_eq_some_iff] at hu; exact hu.1
        rw [Nat.zero_mul, Nat.zero_add, List.getElem?_append_left hj]
        exact hu
      | succ i =>
        simp at hx
        obtain ⟨cs2, hr2, hc2⟩ := h4 i x hx
        refine ⟨cs2, hr2, fun j u hu => ?_⟩
        have := hc2 j u hu
        rw [Nat.add_mul, Nat.one_mul, List.getElem?_append_right (by omega)]
        rw [show i * T.sz + T.sz + j - cs.length = i * T.sz + j from by omega]
        exact this
/-- the cells of what is appended; they lead to Pn's -/
def CC (T : Ty α) (W : World) (Pn : Nat → Prop) (A : Option Addr) (ys : List α) : Prop := ys ≠ [] → ∃ b off, A = some ⟨b, off, none⟩ ∧ ∃ news : List Value, news.length = ys.length * T.sz ∧ (∀ j u, news[j]? = some u → W.cell? ⟨b, off + j, none⟩ = some u) ∧
    (∀ u ∈ news, u.oneCell' = true) ∧ ∀ i x, ys[i]? = some x → ∃ cs, T.rep W Pn x cs ∧ ∀ j u, cs[j]? = some u → news[i * T.sz + j]? = some u
theorem C_CC (h : T.C W Pn A ys) : CC T W Pn A ys := by
  intro hne
  obtain ⟨b, off, rfl, _⟩ := h (List.length_pos_iff.2 hne)
  exact ⟨b, off, rfl, C_cells h⟩
theorem CC_one {b off : Nat} {x : α} {cs : List Value} (h : T.rep W Pn x cs) (hc : ∀ j u, cs[j]? = some u → W.cell? ⟨b, off + j, none⟩ = some u) : CC T W Pn (some ⟨b, off, none⟩) [x] :=
  fun _ => ⟨b, off, rfl, cs, by rw [T.len h]; simp, hc, fun u hu => T.one h u hu, fun i y hy => by
    cases i with
    | zero => simp at hy; subst hy; exact ⟨cs, h, fun j u hu => by simpa using hu⟩
    | succ i => simp at hy⟩
theorem ownBlock_lt {n size : Nat} {cells : List Value} (h : W.ownsRow B e size v n cells) (k : Nat) (hk : v.ownBlock = some k) : k < W.heap.size := (ownsRow_lt h hk).2
/-- 'append(v, ys...)': what was there is P's, what comes is Pn's. -/
theorem run_append_Row (ty : TypeId) {z : Value} {bytes : Nat} (ht : P.underlying t = some (.slice e)) (hinfo : (P.info? e).map (fun i => (i.zero, i.size, i.bytes)) = some (some z, T.sz, bytes)) (hz : z.cells.size = T.sz) (hb0 : 0 < bytes)
    (HO : RowI T e W B PI v xs) (HR : CC T W Pn A ys) (hne : ∀ k, Pn k → k < W.heap.size → some k ≠ v.ownBlock) (hbase : B ≤ W.heap.size) (hl : (xs.length + ys.length) * bytes ≤ 140737488355328) :
    ∃ v1 w1, (Builtin.append_ #[t, t] ty #[v, .slice A ys.length c]).run P W = .ok v1 w1 ∧ RowI T e w1 B (fun i k => if i < xs.length then PI i k else Pn k) v1 (xs ++ ys) ∧ W.grownBy w1 v.ownBlock ∧
      (v1.ownBlock = v.ownBlock ∨ ∃ b, v1.ownBlock = some b ∧ W.heap.size ≤ b) := by
  obtain ⟨i0, hi, hzz⟩ := Option.map_eq_some_iff.1 hinfo
  simp only [Prod.mk.injEq] at hzz
  obtain ⟨hz0, hz1, hz2⟩ := hzz
  have hlen : xs.length + ys.length ≤ 140737488355328 := Nat.le_trans (Nat.le_mul_of_pos_right _ hb0) hl
  have HO' := HO
  obtain ⟨inner, hown, hr⟩ := HO
  by_cases hA : ∃ b off, A = some ⟨b, off, none⟩ ∧ 0 < ys.length
  · obtain ⟨b, off, rfl, hy⟩ := hA
    obtain ⟨_, _, e0, news, hn1, hn2, hn3, hn4⟩ := HR (by intro e; rw [e] at hy; simp at hy)
    obtain ⟨rfl, rfl⟩ := (by simpa using e0 : b = _ ∧ off = _)
    obtain ⟨v1, w1, hrun, h2, hg, _, hat⟩ := run_append_own_at (P := P) W B t ty e i0 z T.sz bytes ht hi hz0 hz1 hz2 hz T.pos v xs.length inner hown ⟨b, off, none⟩ ys.length c news hn1
      (fun j u hu => by rw [Addr.add_lit]; exact hn2 j u hu) hn3 (by simp only [maxLen]; omega) hl hbase
    have hat' : v1.ownBlock = v.ownBlock ∨ ∃ b, v1.ownBlock = some b ∧ W.heap.size ≤ b := by
      rcases hat with hat | hat
      · exact .inl hat
      · exact .inr ⟨_, hat, Nat.le_refl _⟩
    have hne1 : ∀ k, k < W.heap.size → some k ≠ v.ownBlock → some k ≠ v1.ownBlock := by
      intro k hk hk2 e1
      rcases hat' with h | ⟨b, h, hb⟩
      · exact hk2 (e1.trans h)
      · rw [h] at e1
        injection e1 with e1
        omega
    refine ⟨v1, w1, hrun, ⟨inner ++ news, ?_, ?_⟩, hg, hat'⟩
    · rw [List.length_append]; exact h2
    · intro i x hx
      rw [List.getElem?_append] at hx
      split at hx
      · rename_i hlt
        obtain ⟨cs, hrr, hcc⟩ := hr i x hx
        refine ⟨cs, ?_, fun j u hu => ?_⟩
        · refine T.mono ?_ (T.frame (w1 := w1) ?_ (T.lt hrr))
          · rintro k ⟨⟨h1, h2⟩, h3⟩ _
            exact ⟨by simpa [hlt] using h1, hne1 k h3 h2⟩
          · rintro k ⟨⟨h1, h2⟩, h3⟩ _
            exact hg.block k h3 h2
        · have := hcc j u hu
          have hj : i * T.sz + j < inner.length := by rw [List.getElem?_eq_some_iff] at this; exact this.1
          rw [List.getElem?_append_left hj]
          exact this
      · rename_i hlt
        obtain ⟨cs, hrr, hcc⟩ := hn4 _ x hx
        refine ⟨cs, ?_, fun j u hu => ?_⟩
        · refine T.mono ?_ (T.frame (w1 := w1) ?_ (T.lt hrr))
          · rintro k ⟨h1, h3⟩ _
            exact ⟨by simpa [hlt] using h1, hne1 k h3 (hne k h1 h3)⟩
          · rintro k ⟨h1, h3⟩ _
            exact hg.block k h3 (hne k h1 h3)
        · have := hcc j u hu
          have hil := hown.1
          have e1 : i * T.sz = xs.length * T.sz + (i - xs.length) * T.sz := by rw [← Nat.add_mul]; congr 1; omega
          rw [List.getElem?_append_right (by omega)]
          rw [show i * T.sz + j - inner.length = (i - xs.length) * T.sz + j from by omega]
          exact this
  · have hy : ys = [] := by
      cases ys with
      | nil => rfl
      | cons y ys =>
        obtain ⟨b, off, rfl, _⟩ := HR (by simp)
        exact absurd ⟨b, off, rfl, by simp⟩ hA
    subst hy
    rcases A with _ | ad
    · refine ⟨v, W, ?_, ?_, World.grownBy.refl W _, .inl rfl⟩
      · rcases hown.2 with ⟨rfl, hn⟩ | ⟨g, cap, cur, rfl, _, _, hnc, _⟩
        · simp [Builtin.append_, run_underlying ht, sizeOf, typeInfo, hi, Builtin.lenOf, Builtin.firstCells]
        · simp [Builtin.append_, run_underlying ht, sizeOf, typeInfo, hi, Builtin.lenOf, Builtin.firstCells, hnc, storeCells]
      · rw [List.append_nil]
        exact RowI_mono HO' (fun i k hi hk _ => by simpa [hi] using hk)
    · obtain ⟨v1, w1, hrun, h2, hg, _, hat⟩ := run_append_own_at (P := P) W B t ty e i0 z T.sz bytes ht hi hz0 hz1 hz2 hz T.pos v xs.length inner hown ad 0 c [] (by simp)
        (fun j u hu => by simp at hu) (by simp) (by simp only [maxLen]; simp at hlen; omega) (by simpa using hl) hbase
      have hat' : v1.ownBlock = v.ownBlock ∨ ∃ b, v1.ownBlock = some b ∧ W.heap.size ≤ b := by
        rcases hat with hat | hat
        · exact .inl hat
        · exact .inr ⟨_, hat, Nat.le_refl _⟩
      refine ⟨v1, w1, hrun, ⟨inner, ?_, ?_⟩, hg, hat'⟩
      · simpa using h2
      · intro i x hx
        rw [List.append_nil] at hx
        obtain ⟨cs, hrr, hcc⟩ := hr i x hx
        have hlt : i < xs.length := by rw [List.getElem?_eq_some_iff] at hx; exact hx.1
        refine ⟨cs, ?_, hcc⟩
        refine T.mono ?_ (T.frame (w1 := w1) ?_ (T.lt hrr))
        · rintro k ⟨⟨h1, h2⟩, h3⟩ _
          refine ⟨by simpa [hlt] using h1, ?_⟩
          intro e1
          rcases hat' with h | ⟨b, h, hb⟩
          · exact h2 (e1.trans h)
          · rw [h] at e1
            injection e1 with e1
            omega
        · rintro k ⟨⟨h1, h2⟩, h3⟩ _
          exact hg.block k h3 h2
variable {o : Oper} {a : Act} {K : Act → World → Prop} {Q : Exit → Act → World → Prop} {ops : Array Oper} {rest : List Oper}
theorem wp_append_Row (s x : Operand) (ho : o.op = .call { callee := .builtin .append, args := #[s, x], argTypes := #[t, t] }) {z : Value} {bytes : Nat} (ht : P.underlying t = some (.slice e))
    (hinfo : (P.info? e).map (fun i => (i.zero, i.size, i.bytes)) = some (some z, T.sz, bytes)) (hz : z.cells.size = T.sz) (hb0 : 0 < bytes) (hs : a.eval s = v) (hx : a.eval x = .slice A ys.length c)
    (HO : RowI T e W B PI v xs) (HR : CC T W Pn A ys) (hne : ∀ k, Pn k → k < W.heap.size → some k ≠ v.ownBlock) (hbase : B ≤ W.heap.size) (hl : (xs.length + ys.length) * bytes ≤ 140737488355328)
    (h : ∀ v1 w1, RowI T e w1 B (fun i k => if i < xs.length then PI i k else Pn k) v1 (xs ++ ys) → W.grownBy w1 v.ownBlock → (v1.ownBlock = v.ownBlock ∨ ∃ b, v1.ownBlock = some b ∧ W.heap.size ≤ b) → K (a.put o.dst v1) w1) :
    o.wp P a W K Q := by
  obtain ⟨v1, w1, hr, h2, h3, h4⟩ := run_append_Row (c := c) o.type ht hinfo hz hb0 HO HR hne hbase hl
  unfold Oper.wp execOp
  simp only [ho, resolve, invoke, builtin, Sem.run_bind, Sem.run_pure, Result.andThen_ok, List.map_toArray, List.map_cons, List.map_nil, hs, hx, hr]
  exact h v1 w1 h2 h3 h4
theorem wpList_append_Row (hgd : o.guard = none) (s x : Operand) (ho : o.op = .call { callee := .builtin .append, args := #[s, x], argTypes := #[t, t] }) {z : Value} {bytes : Nat} (ht : P.underlying t = some (.slice e))
    (hinfo : (P.info? e).map (fun i => (i.zero, i.size, i.bytes)) = some (some z, T.sz, bytes)) (hz : z.cells.size = T.sz) (hb0 : 0 < bytes) (hs : a.eval s = v) (hx : a.eval x = .slice A ys.length c)
    (HO : RowI T e W B PI v xs) (HR : CC T W Pn A ys) (hne : ∀ k, Pn k → k < W.heap.size → some k ≠ v.ownBlock) (hbase : B ≤ W.heap.size) (hl : (xs.length + ys.length) * bytes ≤ 140737488355328)
    (h : ∀ v1 w1, RowI T e w1 B (fun i k => if i < xs.length then PI i k else Pn k) v1 (xs ++ ys) → W.grownBy w1 v.ownBlock → (v1.ownBlock = v.ownBlock ∨ ∃ b, v1.ownBlock = some b ∧ W.heap.size ≤ b) → wpList P ops Q rest (a.put o.dst v1) w1) :
    wpList P ops Q (o :: rest) a W :=
  wpList_plain hgd fun _ hK => wp_append_Row s x ho ht hinfo hz hb0 hs hx HO HR hne hbase hl fun v' w' h2 h3 h4 => hK _ _ (h v' w' h2 h3 h4)
end
section
variable {α : Type} {T : Ty α} {e : TypeId} {W : World} {B g n c : Nat} {PI : Nat → Nat → Prop} {v : Value} {xs : List α}
theorem RowI_form (h : RowI T e W B PI v xs) (hn : 0 < xs.length) : ∃ g c, v = .slice (some ⟨g, 0, none⟩) xs.length c ∧ B ≤ g ∧ g < W.heap.size ∧ xs.length ≤ c := by
  obtain ⟨cells, ho, hc⟩ := h
  rcases ho.2 with ⟨_, h⟩ | ⟨g, cap, cur, rfl, hg, hh, hl, _⟩
  · omega
  · exact ⟨g, cap, rfl, hg, lt_of_heap hh, hl⟩
theorem ownsRow_cell {size : Nat} {cells : List Value} {m : Nat} (h : W.ownsRow B e size (.slice (some ⟨g, 0, none⟩) n c) m cells) {j : Nat} {u : Value} (hj : cells[j]? = some u) : W.cell? ⟨g, j, none⟩ = some u ∧ W.frozen? ⟨g, j, none⟩ = false := by
  rcases h.2 with ⟨h, _⟩ | ⟨g', cap, cur, e1, hg, hh, hl, _, hcs, ht⟩
  · cases h
  · injection e1 with e1 _ _
    injection e1 with e1
    injection e1 with e1 _ _
    subst e1
    rw [← ht, List.getElem?_take] at hj
    split at hj
    · refine ⟨?_, ?_⟩
      · simp only [World.cell?, hh]
        simpa using hj
      · simp [World.frozen?, hh]
    · cases hj
/-- element i's cells, and that they may be written -/
theorem RowI_at (h : RowI T e W B PI (.slice (some ⟨g, 0, none⟩) n c) xs) {i : Nat} {x : α} (hx : xs[i]? = some x) :
    ∃ cs, T.rep W (fun k => PI i k ∧ k ≠ g) x cs ∧ ∀ j u, cs[j]? = some u → W.cell? ⟨g, i * T.sz + j, none⟩ = some u ∧ W.frozen? ⟨g, i * T.sz + j, none⟩ = false := by
  obtain ⟨cells, ho, hc⟩ := h
  obtain ⟨cs, hr, hcc⟩ := hc i x hx
  exact ⟨cs, T.mono (fun k hk _ => ⟨hk.1, fun e => hk.2 (by rw [e]; rfl)⟩) hr, fun j u hu => ownsRow_cell ho (hcc j u hu)⟩
theorem setCell_heap {cur : Array Value} {fr : Nat × Nat} (h : W.heap[g]? = some (.cells cur e fr)) (j : Nat) (u : Value) : (W.setCell ⟨g, j, none⟩ u).heap[g]? = some (.cells (cur.setIfInBounds j u) e fr) := by
  simp only [World.setCell]
  rw [Array.getElem?_modify]
  simp [h]
theorem cell_set_far {W : World} {a b : Addr} {u : Value} (h : a.block ≠ b.block) : (W.setCell a u).cell? b = W.cell? b := World.cell?_of_block (Below.heap_setCell W a u b.block (Ne.symm h))
/-- three cells of a block are written -/
theorem setCell3 {b : Nat} {x0 x1 x2 : Value} {cs : List Value} {fr : Nat × Nat} {a0 a1 a2 : Value} (h : W.heap[b]? = some (.cells (x0 :: x1 :: x2 :: cs).toArray e fr)) :
    (((W.setCell ⟨b, 0, none⟩ a0).setCell ⟨b, 1, none⟩ a1).setCell ⟨b, 2, none⟩ a2).heap[b]? = some (.cells (a0 :: a1 :: a2 :: cs).toArray e fr) := by
  have := setCell_heap (setCell_heap (setCell_heap h 0 a0) 1 a1) 2 a2
  simpa using this
/-- a cell of element k is written: the element is x' now, and leads to Pk -/
theorem RowI_set (h : RowI T e W B PI (.slice (some ⟨g, 0, none⟩) n c) xs) {k : Nat} {x x' : α} (hx : xs[k]? = some x) {cs : List Value} (hcs : ∀ j u, cs[j]? = some u → W.cell? ⟨g, k * T.sz + j, none⟩ = some u) (hl : cs.length = T.sz)
    {Pk : Nat → Prop} {j : Nat} (hj : j < T.sz) (u : Value) (hr : T.rep W (fun b => Pk b ∧ b ≠ g) x' (cs.set j u)) :
    RowI T e (W.setCell ⟨g, k * T.sz + j, none⟩ u) B (fun i => if i = k then Pk else PI i) (.slice (some ⟨g, 0, none⟩) n c) (xs.set k x') := by
  obtain ⟨cells, ho, hc⟩ := h
  have hk : k < xs.length := by rw [List.getElem?_eq_some_iff] at hx; exact hx.1
  rcases ho.2 with ⟨h, _⟩ | ⟨g', cap, cur, e1, hg, hh, hl1, hmx, hcur, ht⟩
  · cases h
  · injection e1 with e1 e2 e3
    injection e1 with e1
    injection e1 with e1 _ _
    subst e1
    have hfr : ∀ q, q ≠ g → (W.setCell ⟨g, k * T.sz + j, none⟩ u).heap[q]? = W.heap[q]? := fun q hq => Below.heap_setCell W _ u q hq
    have hkj : k * T.sz + j < xs.length * T.sz := by
      have : (k + 1) * T.sz ≤ xs.length * T.sz := Nat.mul_le_mul_right _ hk
      rw [Nat.add_mul] at this
      omega
    refine ⟨cells.set (k * T.sz + j) u, ⟨by rw [List.length_set, List.length_set]; exact ho.1, .inr ⟨g, cap, cur.setIfInBounds (k * T.sz + j) u, by rw [List.length_set, ← e2, ← e3], hg, setCell_heap hh _ _, by rw [List.length_set]; exact hl1, hmx, by simpa using hcur, ?_⟩⟩, ?_⟩
    · rw [Array.toList_setIfInBounds, List.length_set, ← ht, List.take_set]
    · intro i y hy
      rw [List.getElem?_set] at hy
      by_cases hik : k = i
      · subst hik
        rw [if_pos rfl, if_pos hk] at hy
        injection hy with hy
        subst hy
        refine ⟨cs.set j u, ?_, fun t z hz => ?_⟩
        · refine T.frame (w := W) (fun q hq _ => hfr q ?_) (T.mono (fun q hq _ => ?_) hr)
          · intro e; exact hq.2 (by rw [e]; rfl)
          · exact ⟨by simpa using hq.1, fun e => hq.2 (Option.some.inj e)⟩
        · rw [List.getElem?_set] at hz ⊢
          by_cases htj : j = t
          · subst htj
            rw [if_pos rfl] at hz ⊢
            rw [if_pos (by omega)] at hz
            rw [if_pos (by rw [ho.1]; omega)]
            exact hz
          · rw [if_neg htj] at hz
            rw [if_neg (by omega)]
            have hzl : t < cs.length := by rw [List.getElem?_eq_some_iff] at hz; exact hz.1
            have h1 := hcs t z hz
            obtain ⟨cs0, hr0, hc0⟩ := hc k x hx
            have hl0 := T.len hr0
            have h2 : cs0[t]? = some cs0[t] := List.getElem?_eq_getElem (by omega)
            have h3 := ownsRow_cell ho (hc0 t _ h2)
            rw [h3.1] at h1
            injection h1 with h1
            rw [← h1]
            exact hc0 t _ h2
      · rw [if_neg hik] at hy
        obtain ⟨cs0, hr0, hc0⟩ := hc i y hy
        have hl0 := T.len hr0
        refine ⟨cs0, ?_, fun t z hz => ?_⟩
        · refine T.frame (w := W) (fun q hq _ => hfr q ?_) (T.mono (fun q hq _ => ?_) hr0)
          · intro e; exact hq.2 (by rw [e]; rfl)
          · exact ⟨by simp only [if_neg (fun e : i = k => hik e.symm)]; exact hq.1, hq.2⟩
        · have hzl : t < cs0.length := by rw [List.getElem?_eq_some_iff] at hz; exact hz.1
          rw [List.getElem?_set, if_neg]
          · exact hc0 t z hz
          · intro e
            rcases Nat.lt_or_gt_of_ne hik with h | h
            · have : (k + 1) * T.sz ≤ i * T.sz := Nat.mul_le_mul_right _ h
              rw [Nat.add_mul] at this
              omega
            · have : (i + 1) * T.sz ≤ k * T.sz := Nat.mul_le_mul_right _ h
              rw [Nat.add_mul] at this
              omega
end
end Ty
end Go.Proofs.Ytfoeddmbhmfjcaa
/- The log's data: blocks, segments, states; the same Lean types for the program's and the page's. -/
namespace Go.Proofs.Ytfoeddmbhmfjcaa
open Go.RowKit

structure Blk where
  own : Int
  idx : Int
  data : List Int
  deriving DecidableEq
structure Sg where
  seq : Int
  blocks : List Blk
  deriving DecidableEq
structure St where
  segs : List Sg
  held : List Bool
  opn : List Blk
  next : Int
  deriving DecidableEq

def tBytes : Ty (List Int) := Ty.slice 1 (Ty.int .u8)
def tBlk : Ty Blk := Ty.iso (Ty.pair (Ty.int .i64) (Ty.pair (Ty.int .i64) tBytes)) (fun b => (b.own, b.idx, b.data))
def tBlks : Ty (List Blk) := Ty.slice 40 tBlk
def tSg : Ty Sg := Ty.iso (Ty.pair (Ty.int .i64) tBlks) (fun s => (s.seq, s.blocks))
def tSgs : Ty (List Sg) := Ty.slice 32 tSg
def tBools : Ty (List Bool) := Ty.slice 1 Ty.bool
def tSt : Ty St := Ty.iso (Ty.pair tSgs (Ty.pair tBools (Ty.pair tBlks (Ty.int .i64)))) (fun s => (s.segs, s.held, s.opn, s.next))

theorem sz_blk : tBlk.sz = 3 := rfl
theorem sz_sg : tSg.sz = 2 := rfl
/-- What a slice's cell says. -/
def RdS {α : Type} (T : Ty α) (b : Nat) (w : World) (P : Nat → Prop) (A : Option Addr) (c : Nat) (xs : List α) : Prop := xs.length ≤ c ∧ xs.length * b ≤ reachB ∧ T.C w P A xs
section
variable {w w1 : World} {P Q : Nat → Prop} {α : Type} {T : Ty α} {b : Nat} {A : Option Addr} {c : Nat} {xs : List α}
theorem RdS.below (h : RdS T b w P A c xs) (hb : Below w.heap.size w w1) : RdS T b w1 P A c xs := ⟨h.1, h.2.1, Ty.C_below h.2.2 hb⟩
theorem RdS.mono (h : RdS T b w P A c xs) (hq : ∀ k, P k → k < w.heap.size → Q k) : RdS T b w Q A c xs := ⟨h.1, h.2.1, Ty.C_mono hq h.2.2⟩
theorem RdS.lt (h : RdS T b w P A c xs) : RdS T b w (fun k => P k ∧ k < w.heap.size) A c xs := ⟨h.1, h.2.1, Ty.C_lt h.2.2⟩
theorem RdS.rep (h : RdS T b w P A c xs) : (Ty.slice b T).rep w P xs [.slice A xs.length c] := ⟨A, c, rfl, h⟩
theorem rdS_of {cs : List Value} (h : (Ty.slice b T).rep w P xs cs) : ∃ A c, cs = [.slice A xs.length c] ∧ RdS T b w P A c xs := h
theorem blk_open {x : Blk} {cs : List Value} (h : tBlk.rep w P x cs) : ∃ A c, cs = [.int .i64 x.own, .int .i64 x.idx, .slice A x.data.length c] ∧ (Lit.int .i64 x.own).wf = true ∧ (Lit.int .i64 x.idx).wf = true ∧ RdS (Ty.int .u8) 1 w P A c x.data := by
  obtain ⟨c1, c2, rfl, ⟨rfl, w1⟩, c3, c4, rfl, ⟨rfl, w2⟩, A, c, rfl, h⟩ := h
  exact ⟨A, c, rfl, w1, w2, h⟩
theorem blk_mk {x : Blk} {A : Option Addr} {c : Nat} (h1 : (Lit.int .i64 x.own).wf = true) (h2 : (Lit.int .i64 x.idx).wf = true) (h3 : RdS (Ty.int .u8) 1 w P A c x.data) : tBlk.rep w P x [.int .i64 x.own, .int .i64 x.idx, .slice A x.data.length c] :=
  ⟨[_], [_, _], rfl, ⟨rfl, h1⟩, [_], [_], rfl, ⟨rfl, h2⟩, A, c, rfl, h3⟩
theorem sg_open {x : Sg} {cs : List Value} (h : tSg.rep w P x cs) : ∃ A c, cs = [.int .i64 x.seq, .slice A x.blocks.length c] ∧ (Lit.int .i64 x.seq).wf = true ∧ RdS tBlk 40 w P A c x.blocks := by
  obtain ⟨c1, c2, rfl, ⟨rfl, w1⟩, A, c, rfl, h⟩ := h
  exact ⟨A, c, rfl, w1, h⟩
theorem sg_mk {x : Sg} {A : Option Addr} {c : Nat} (h1 : (Lit.int .i64 x.seq).wf = true) (h3 : RdS tBlk 40 w P A c x.blocks) : tSg.rep w P x [.int .i64 x.seq, .slice A x.blocks.length c] :=
  ⟨[_], [_], rfl, ⟨rfl, h1⟩, A, c, rfl, h3⟩
theorem st_open {x : St} {cs : List Value} (h : tSt.rep w P x cs) : ∃ A0 c0 A1 c1 A2 c2, cs = [.slice A0 x.segs.length c0, .slice A1 x.held.length c1, .slice A2 x.opn.length c2, .int .i64 x.next] ∧
    RdS tSg 32 w P A0 c0 x.segs ∧ RdS Ty.bool 1 w P A1 c1 x.held ∧ RdS tBlk 40 w P A2 c2 x.opn ∧ (Lit.int .i64 x.next).wf = true := by
  obtain ⟨_, _, rfl, ⟨A0, c0, rfl, h0⟩, _, _, rfl, ⟨A1, c1, rfl, h1⟩, _, _, rfl, ⟨A2, c2, rfl, h2⟩, rfl, w3⟩ := h
  exact ⟨A0, c0, A1, c1, A2, c2, rfl, h0, h1, h2, w3⟩
theorem st_mk {x : St} {A0 A1 A2 : Option Addr} {c0 c1 c2 : Nat} (h0 : RdS tSg 32 w P A0 c0 x.segs) (h1 : RdS Ty.bool 1 w P A1 c1 x.held) (h2 : RdS tBlk 40 w P A2 c2 x.opn) (h3 : (Lit.int .i64 x.next).wf = true) :
    tSt.rep w P x [.slice A0 x.segs.length c0, .slice A1 x.held.length c1, .slice A2 x.opn.length c2, .int .i64 x.next] :=
  ⟨[_], [_, _, _], rfl, ⟨A0, c0, rfl, h0⟩, [_], [_, _], rfl, ⟨A1, c1, rfl, h1⟩, [_], [_], rfl, ⟨A2, c2, rfl, h2⟩, rfl, h3⟩
/-- element i of a read slice of blocks: its cells. -/
theorem RdS.blkAt {A : Option Addr} {xs : List Blk} (h : RdS tBlk 40 w P A c xs) {i : Nat} {x : Blk} (hi : xs[i]? = some x) : ∃ b off Ad cd, A = some ⟨b, off, none⟩ ∧ P b ∧ w.cell? ⟨b, off + i * 3, none⟩ = some (.int .i64 x.own) ∧
    w.cell? ⟨b, off + i * 3 + 1, none⟩ = some (.int .i64 x.idx) ∧ w.cell? ⟨b, off + i * 3 + 2, none⟩ = some (.slice Ad x.data.length cd) ∧ RdS (Ty.int .u8) 1 w P Ad cd x.data ∧ (Lit.int .i64 x.own).wf = true ∧ (Lit.int .i64 x.idx).wf = true := by
  obtain ⟨b, off, rfl, hb, cs, hr, hc⟩ := Ty.C_at h.2.2 hi
  obtain ⟨Ad, cd, rfl, w1, w2, hd⟩ := blk_open hr
  exact ⟨b, off, Ad, cd, rfl, hb, hc 0 _ rfl, hc 1 _ rfl, hc 2 _ rfl, hd, w1, w2⟩
theorem RdS.sgAt {A : Option Addr} {xs : List Sg} (h : RdS tSg 32 w P A c xs) {i : Nat} {x : Sg} (hi : xs[i]? = some x) : ∃ b off Ad cd, A = some ⟨b, off, none⟩ ∧ P b ∧ w.cell? ⟨b, off + i * 2, none⟩ = some (.int .i64 x.seq) ∧
    w.cell? ⟨b, off + i * 2 + 1, none⟩ = some (.slice Ad x.blocks.length cd) ∧ RdS tBlk 40 w P Ad cd x.blocks ∧ (Lit.int .i64 x.seq).wf = true := by
  obtain ⟨b, off, rfl, hb, cs, hr, hc⟩ := Ty.C_at h.2.2 hi
  obtain ⟨Ad, cd, rfl, w1, hd⟩ := sg_open hr
  exact ⟨b, off, Ad, cd, rfl, hb, hc 0 _ rfl, hc 1 _ rfl, hd, w1⟩
theorem RdS.boolAt {A : Option Addr} {xs : List Bool} (h : RdS Ty.bool 1 w P A c xs) {i : Nat} {x : Bool} (hi : xs[i]? = some x) : ∃ b off, A = some ⟨b, off, none⟩ ∧ P b ∧ w.cell? ⟨b, off + i, none⟩ = some (.bool x) := by
  obtain ⟨b, off, rfl, hb, cs, rfl, hc⟩ := Ty.C_at h.2.2 hi
  have := hc 0 _ rfl
  exact ⟨b, off, rfl, hb, by simpa [Ty.bool] using this⟩
theorem RdS.intAt {k : IntKind} {A : Option Addr} {xs : List Int} (h : RdS (Ty.int k) b w P A c xs) {i : Nat} {x : Int} (hi : xs[i]? = some x) : ∃ bl off, A = some ⟨bl, off, none⟩ ∧ P bl ∧ w.cell? ⟨bl, off + i, none⟩ = some (.int k x) ∧ (Lit.int k x).wf = true := by
  obtain ⟨bl, off, rfl, hb, cs, ⟨rfl, hw⟩, hc⟩ := Ty.C_at h.2.2 hi
  have := hc 0 _ rfl
  exact ⟨bl, off, rfl, hb, by simpa [Ty.int] using this, hw⟩
end
/-- What a call leaves: all blocks below stay, and their marks. -/
theorem bcell {W w1 : World} (hb : Below W.heap.size W w1) : (∀ b o, b < W.heap.size → w1.cell? ⟨b, o, none⟩ = W.cell? ⟨b, o, none⟩) ∧ (∀ b o, b < W.heap.size → w1.frozen? ⟨b, o, none⟩ = W.frozen? ⟨b, o, none⟩) :=
  ⟨fun b o h => hb.cell (p := ⟨b, o, none⟩) h, fun b o h => hb.frozen (p := ⟨b, o, none⟩) h⟩
end Go.Proofs.Ytfoeddmbhmfjcaa
/- Contracts: segment.May, ContainsFunc over blocks, segment.Check, log.free. -/
namespace Go.Proofs.Ytfoeddmbhmfjcaa
open Go.RowKit

def mayB (o i : Int) (n : Nat) : Bool := decide (1 ≤ o ∧ o ≤ 2147483647 ∧ 0 ≤ i ∧ i ≤ 255 ∧ n ≤ 32)
def mayBlk (b : Blk) : Bool := mayB b.own b.idx b.data.length

theorem may_calls (o i : Int) (A : Option Addr) (n c : Nat) (w : World) :
    Calls Try.prog 63 #[.agg #[.int .i64 o, .int .i64 i, .slice A n c]] w fun e w' => e = .returned (.bool (mayB o i n)) ∧ Below w.heap.size w w' := by
  go_enter Try.func63, Try.ntmps63
  go_wp2
  all_goals
    go_ret
    exact ⟨ret_bool (by simp [mayB]; omega), (Below.refl _ _).alloc (Nat.le_refl _) _⟩

theorem notMay1_calls (o i : Int) (A : Option Addr) (n c : Nat) (w : World) :
    Calls Try.prog 75 #[.agg #[.int .i64 o, .int .i64 i, .slice A n c]] w fun e w' => e = .returned (.bool (!mayB o i n)) ∧ Below w.heap.size w w' := by
  go_enter Try.func75, Try.ntmps75
  go_wp2_with (go_at_call 63; refine (may_calls _ _ _ _ _ _).mono ?_; rintro e w1 ⟨rfl, hb⟩)
  go_ret
  exact ⟨rfl, ((Below.refl _ _).alloc (Nat.le_refl _) _).trans (hb.mono (by simp))⟩

theorem notMay2_calls (o i : Int) (A : Option Addr) (n c : Nat) (w : World) :
    Calls Try.prog 86 #[.agg #[.int .i64 o, .int .i64 i, .slice A n c]] w fun e w' => e = .returned (.bool (!mayB o i n)) ∧ Below w.heap.size w w' := by
  go_enter Try.func86, Try.ntmps86
  go_wp2_with (go_at_call 63; refine (may_calls _ _ _ _ _ _).mono ?_; rintro e w1 ⟨rfl, hb⟩)
  go_ret
  exact ⟨rfl, ((Below.refl _ _).alloc (Nat.le_refl _) _).trans (hb.mono (by simp))⟩

/-- A function value that answers p of each block. -/
def Says (g : FuncId) (p : Blk → Bool) : Prop := (∀ args w, (callFunc g args).run Try.prog w = .ok (.enter g args) w) ∧ ∀ (x : Blk) (A : Option Addr) (c : Nat) (w : World),
  Calls Try.prog g #[.agg #[.int .i64 x.own, .int .i64 x.idx, .slice A x.data.length c]] w fun e w' => e = .returned (.bool (p x)) ∧ Below w.heap.size w w'

/-- where the first stands of which p says yes; -1: none -/
def fIdx {α : Type} (p : α → Bool) (l : List α) : Int := match l.findIdx? p with | some i => (i : Int) | none => -1
theorem fIdx_at {α : Type} {p : α → Bool} {l : List α} {k : Nat} {x : α} (hk : l[k]? = some x) (h1 : p x = true) (h : ∀ (j : Nat) (y : α), l[j]? = some y → j < k → p y = false) : fIdx p l = k := by
  obtain ⟨hk', rfl⟩ := List.getElem?_eq_some_iff.1 hk
  unfold fIdx
  rw [(List.findIdx?_eq_some_iff_getElem).2 ⟨hk', h1, fun j hj => by simpa using h j _ (List.getElem?_eq_getElem (by omega)) hj⟩]
theorem fIdx_no {α : Type} {p : α → Bool} {l : List α} (h : ∀ (j : Nat) (y : α), l[j]? = some y → p y = false) : fIdx p l = -1 := by
  unfold fIdx
  rw [List.findIdx?_eq_none_iff.2 (fun x hx => by obtain ⟨j, hj, rfl⟩ := List.mem_iff_getElem.1 hx; exact h j _ (List.getElem?_eq_getElem hj))]
theorem fIdx_any {α : Type} (p : α → Bool) (l : List α) : decide (0 ≤ fIdx p l) = l.any p := by
  unfold fIdx
  cases h : l.findIdx? p with
  | none => rw [List.findIdx?_eq_none_iff] at h; simp; exact h
  | some i =>
    rw [List.findIdx?_eq_some_iff_getElem] at h
    obtain ⟨h1, h2, _⟩ := h
    have : l.any p = true := List.any_eq_true.2 ⟨_, List.getElem_mem h1, h2⟩
    rw [this]; simp

set_option maxRecDepth 20000 in
theorem indexFunc_calls (g : FuncId) (p : Blk → Bool) (hg : Says g p) {P : Nat → Prop} (A : Option Addr) (c : Nat) (l : List Blk) (w : World) (h : RdS tBlk 40 w P A c l) :
    Calls Try.prog 85 #[.slice A l.length c, .func (.func g) #[] #[]] w fun e w' => e = .returned (.int .i64 (fIdx p l)) ∧ Below w.heap.size w w' := by
  have H := Lib.hid h
  clear h
  go_enter Try.func85, Try.ntmps85
  go_wp2
  go_loopw [8] (fun i wr => ∃ k : Nat, k ≤ l.length ∧ i = .int .i64 k ∧ Hid (∀ j y, l[j]? = some y → j < k → p y = false) ∧ Hid (Below w.heap.size w wr)) (fun i _ => l.length - (intOf i).toNat)
  case atStart => exact ⟨0, Nat.zero_le _, rfl, fun _ _ _ h => by omega, Below.refl _ _⟩
  case round =>
    obtain ⟨k, hk, rfl, hp, hb⟩ := hrel
    have hlen : l.length ≤ 9223372036854775807 := by have := H.out.2.1; unfold reachB at this; omega
    by_cases hlt : k < l.length
    · obtain ⟨x, hx⟩ : ∃ x, l[k]? = some x := ⟨_, List.getElem?_eq_getElem hlt⟩
      obtain ⟨b, off, Ad, cd, rfl, _, h0, h1, h2, _⟩ := (H.out.below hb.out).blkAt hx
      have HX := Lib.hid hx
      clear hx
      have eg := hg.1
      go_wp2_with fail
      refine (hg.2 x Ad cd _).mono ?_
      rintro e w1 ⟨rfl, hb1⟩
      generalize hpk : p x = q
      have HP := Lib.hid hpk
      clear hpk
      cases q
      · go_wp2
        go_roundw
        case rel => exact ⟨k + 1, by omega, by go_num, fun j y hy hj => if e : j = k then by subst e; rw [HX.out] at hy; cases hy; exact HP.out else hp.out j y hy (by omega), hb.out.trans (hb1.mono hb.out.size)⟩
        case measure => simp [intOf]; omega
      · go_wp2
        go_ret
        exact ⟨ret_int (fIdx_at HX.out HP.out hp.out).symm, hb.out.trans (hb1.mono hb.out.size)⟩
    · go_wp2
      go_ret
      exact ⟨ret_int (fIdx_no (fun j y hy => hp.out j y hy (by rw [List.getElem?_eq_some_iff] at hy; have := hy.1; omega))).symm, hb.out⟩
theorem says1 : Says 75 (fun b => !mayBlk b) := ⟨fun args w => by kernel_rfl, fun x A c w => notMay1_calls _ _ _ _ _ _⟩
theorem says2 : Says 86 (fun b => !mayBlk b) := ⟨fun args w => by kernel_rfl, fun x A c w => notMay2_calls _ _ _ _ _ _⟩
theorem containsFunc_calls (g : FuncId) (p : Blk → Bool) (hg : Says g p) {P : Nat → Prop} (A : Option Addr) (c : Nat) (l : List Blk) (w : World) (h : RdS tBlk 40 w P A c l) :
    Calls Try.prog 74 #[.slice A l.length c, .func (.func g) #[] #[]] w fun e w' => e = .returned (.bool (l.any p)) ∧ Below w.heap.size w w' := by
  go_enter Try.func74, Try.ntmps74
  go_wp2_with fail
  refine (indexFunc_calls g p hg A c l _ h).mono ?_
  rintro e w1 ⟨rfl, hb1⟩
  go_wp2
  go_ret
  exact ⟨by rw [fIdx_any]; rfl, hb1⟩

def sgOk (s : Sg) : Bool := decide (1 ≤ s.seq ∧ s.seq ≤ 1099511627776 ∧ 1 ≤ s.blocks.length ∧ s.blocks.length ≤ 8) && s.blocks.all mayBlk
/-- an error's number: none, or ErrState -/
def errOf (b : Bool) : Int := if b then 0 else 9
theorem errOf_t {b : Bool} (h : b = true) : errOf b = 0 := by rw [h]; rfl
theorem errOf_f {b : Bool} (h : b = false) : errOf b = 9 := by rw [h]; rfl
def freeB (s : Sg) : Bool := decide (s.seq = 0 ∧ s.blocks.length = 0)

theorem any_not {α : Type} (p : α → Bool) (l : List α) : (l.any fun b => !p b) = !l.all p := by
  induction l with
  | nil => rfl
  | cons x l ih => simp [ih]
theorem sgOk_eq (s : Sg) : (decide (1 ≤ s.seq ∧ s.seq ≤ 1099511627776 ∧ 1 ≤ s.blocks.length ∧ s.blocks.length ≤ 8) && !(s.blocks.any fun b => !mayBlk b)) = sgOk s := by
  rw [any_not, Bool.not_not]; rfl
/-- segment.Check -/
theorem sgCheck_calls {P : Nat → Prop} (s : Sg) (A : Option Addr) (c : Nat) (w : World) (h : RdS tBlk 40 w P A c s.blocks) :
    Calls Try.prog 76 #[.agg #[.int .i64 s.seq, .slice A s.blocks.length c]] w fun e w' => e = .returned (.int .i64 (errOf (sgOk s))) ∧ Below w.heap.size w w' := by
  have hlen : s.blocks.length ≤ 9223372036854775807 := by have := h.2.1; unfold reachB at this; omega
  have H := Lib.hid h
  clear h
  generalize hq : (s.blocks.any fun b => !mayBlk b) = q
  have HQ := Lib.hid hq
  clear hq
  go_enter Try.func76, Try.ntmps76
  go_wp2_with (go_at_call 74; refine (containsFunc_calls _ _ says2 A c s.blocks _ (H.out.below ((Below.refl _ _).alloc (Nat.le_refl _) _))).mono ?_; rintro e w1 ⟨rfl, hb⟩; rw [HQ.out])
  all_goals
    go_ret
    refine ⟨ret_int ?_, ?_⟩
    · rw [← sgOk_eq, HQ.out]
      cases q
      · first | exact (errOf_t (by simp; omega)).symm | exact (errOf_f (by simp; omega)).symm | (exfalso; simp_all <;> omega)
      · first | exact (errOf_f (by simp)).symm | (exfalso; simp_all <;> omega)
    · first | exact (Below.refl _ _).alloc (Nat.le_refl _) _ | exact ((Below.refl _ _).alloc (Nat.le_refl _) _).trans (hb.mono (by simp))
end Go.Proofs.Ytfoeddmbhmfjcaa
/- Maps that the call makes, as lists of keys and values: what is looked up, what is stored. -/
namespace Go.Proofs.Ytfoeddmbhmfjcaa
open Go.RowKit Go.Instr

/-- a key type: how keys are written, and that a search among them finds the first that is the same -/
structure MapKey (P : Program) (kt : TypeId) (κ : Type) [DecidableEq κ] where
  enc : κ → Value
  same : ∀ k, sameBits 10000 (enc k) (enc k) = true
  check : ∀ k b w, (checkKey b 10000 kt (enc k)).run P w = .ok () w
  find : ∀ (k : κ) (es : List MapEntry) (ks : List κ) (i : Nat) (w : World), es.map (·.key) = ks.map enc →
    (findKey kt (enc k) es).run P w = .ok ((ks.idxOf? k).bind fun i => (es[i]?).map fun e => (i, e.val)) w

def mGet {κ : Type} [DecidableEq κ] (l : List (κ × Value)) (k : κ) : Option Value := (l.find? (fun p => decide (p.1 = k))).map (·.2)
def mPut {κ : Type} [DecidableEq κ] (l : List (κ × Value)) (k : κ) (v : Value) : List (κ × Value) := if (l.map (·.1)).contains k then l.map (fun p => if p.1 = k then (k, v) else p) else l ++ [(k, v)]

/-- the block b is a map that holds l. -/
def HasMap {κ : Type} (enc : κ → Value) (w : World) (b : Nat) (l : List (κ × Value)) : Prop :=
  ∃ es clock, w.heap[b]? = some (.map es clock) ∧ es.toList.map (fun e => (e.key, e.val)) = l.map (fun p => (enc p.1, p.2)) ∧ (l.map (·.1)).Nodup ∧ (∀ e ∈ es.toList, e.born < clock) ∧ (es.toList.map (·.born)).Nodup

theorem HasMap.lt {κ : Type} {w : World} {b : Nat} {l : List (κ × Value)} {enc : κ → Value} (h : HasMap enc w b l) : b < w.heap.size := by
  obtain ⟨es, clock, hb, _⟩ := h
  exact lt_of_heap hb
theorem HasMap.frame {κ : Type} {w w1 : World} {b : Nat} {l : List (κ × Value)} {enc : κ → Value} (h : HasMap enc w b l) (hf : w1.heap[b]? = w.heap[b]?) : HasMap enc w1 b l := by
  obtain ⟨es, clock, hb, r⟩ := h
  exact ⟨es, clock, hf.trans hb, r⟩
theorem HasMap.below {κ : Type} {w w1 : World} {b : Nat} {l : List (κ × Value)} {enc : κ → Value} (h : HasMap enc w b l) (hb : Below w.heap.size w w1) : HasMap enc w1 b l := h.frame (hb.block b h.lt)
theorem hasMap_made {κ : Type} (enc : κ → Value) (w : World) : HasMap enc (w.alloc (.map #[] 0)) w.heap.size ([] : List (κ × Value)) :=
  ⟨#[], 0, heap_alloc_new w _, rfl, by simp, by simp, by simp⟩
section
variable {P : Program} {kt : TypeId} {κ : Type} [DecidableEq κ] {w w1 : World} {b : Nat} {l : List (κ × Value)}
theorem mGet_idx (l : List (κ × Value)) (k : κ) : mGet l k = ((l.map (·.1)).idxOf? k).bind fun i => (l[i]?).map (·.2) := by
  unfold mGet
  induction l with
  | nil => simp
  | cons p l ih =>
    rw [List.find?_cons, List.map_cons, List.idxOf?_cons]
    by_cases h : p.1 = k
    · subst h; simp
    · have h2 : (p.1 == k) = false := by simpa using h
      simp only [h, decide_false, h2]
      rw [ih]
      cases (l.map (·.1)).idxOf? k with
      | none => simp
      | some i => simp
theorem hasMap_get (K : MapKey P kt κ) {t e : TypeId} (ht : P.underlying t = some (.map kt e)) (h : HasMap K.enc w b l) (k : κ) {z : Value} (hz : (zeroValue e).run P w = .ok z w) :
    (Instr.lookup t (.map (some b)) (K.enc k) false).run P w = .ok ((mGet l k).getD z) w := by
  obtain ⟨es, clock, hb, he, hn, _⟩ := h
  have hk : es.toList.map (·.key) = (l.map (·.1)).map K.enc := by
    have := congrArg (List.map Prod.fst) he
    simpa [List.map_map, Function.comp_def] using this
  have hf := K.find k es.toList (l.map (·.1)) 0 w hk
  have hget : (Sem.run P (getObj b) w) = .ok (.map es clock) w := by simp [getObj, Sem.run, hb]
  have hc := K.check k es.isEmpty w
  rw [mGet_idx]
  simp only [Instr.lookup, Sem.run_bind, run_underlying ht, Result.andThen_ok, hget, hc, hf, Sem.run_pure]
  cases hi : (l.map (·.1)).idxOf? k with
  | none => simp [hz, Result.andThen]
  | some i =>
    have hil : i < l.length := by
      rw [List.idxOf?_eq_some_iff] at hi
      simpa using hi.1
    have hle : es.toList.length = l.length := by simpa using congrArg List.length he
    have hev : (es.toList[i]?).map (·.val) = (l[i]?).map (·.2) := by
      have := congrArg (fun q => (q[i]?).map Prod.snd) he
      simpa [List.getElem?_map, Option.map_map, Function.comp_def] using this
    have h1 : es.toList[i]? = some (es.toList[i]'(by omega)) := List.getElem?_eq_getElem (by omega)
    rw [h1] at hev
    simp only [Option.bind_some, h1, Option.map_some]
    rw [← hev]
    simp [Result.andThen]
/-- the world with another object in a block -/
def setB (w : World) (b : Nat) (o : Obj) : World := { w with heap := w.heap.setIfInBounds b o }
theorem setB_other {o : Obj} {k : Nat} (h : k ≠ b) : (setB w b o).heap[k]? = w.heap[k]? := by
  unfold setB
  rw [Array.getElem?_setIfInBounds]
  rw [if_neg (fun e => h e.symm)]
theorem setB_same {o : Obj} (h : b < w.heap.size) : (setB w b o).heap[b]? = some o := by
  unfold setB
  rw [Array.getElem?_setIfInBounds]
  simp [h]
theorem keys_mPut (l : List (κ × Value)) (k : κ) (v : Value) : (mPut l k v).map (·.1) = if (l.map (·.1)).contains k then l.map (·.1) else l.map (·.1) ++ [k] := by
  unfold mPut
  split
  · rw [List.map_map]
    apply List.map_congr_left
    intro p _
    simp only [Function.comp]
    split
    · rename_i h; rw [h]
    · rfl
  · simp
theorem mPut_nodup {l : List (κ × Value)} (h : (l.map (·.1)).Nodup) (k : κ) (v : Value) : ((mPut l k v).map (·.1)).Nodup := by
  rw [keys_mPut]
  split
  · exact h
  · rename_i hc
    rw [List.nodup_append]
    refine ⟨h, by simp, ?_⟩
    intro a ha b hb e
    simp at hb
    subst hb; subst e
    exact hc (by simpa using ha)
theorem mGet_mPut (l : List (κ × Value)) (k k' : κ) (v : Value) : mGet (mPut l k v) k' = if k' = k then some v else mGet l k' := by
  unfold mPut mGet
  by_cases hc : (l.map (·.1)).contains k = true
  · rw [if_pos hc]
    have hc' : k ∈ l.map (·.1) := by simpa using hc
    clear hc
    induction l with
    | nil => simp at hc'
    | cons p l ih =>
      rw [List.map_cons, List.find?_cons, List.find?_cons]
      by_cases hp : p.1 = k
      · rw [if_pos hp]
        by_cases hk : k' = k
        · subst hk; simp
        · have h1 : ¬ k = k' := fun e => hk e.symm
          have h2 : ¬ p.1 = k' := by rw [hp]; exact h1
          simp only [h1, h2, decide_false, if_neg hk]
          by_cases hm : k ∈ l.map (·.1)
          · have := ih hm
            rw [if_neg hk] at this
            exact this
          · congr 1
            rw [List.find?_map]
            clear ih hc'
            induction l with
            | nil => rfl
            | cons q l ih2 =>
              simp only [List.map_cons, List.mem_cons, not_or] at hm
              rw [List.find?_cons, List.find?_cons]
              have hq : ¬ q.1 = k := fun e => hm.1 e.symm
              simp only [Function.comp, if_neg hq]
              by_cases hqk : q.1 = k'
              · simp [hqk, hk]
              · simp only [hqk, decide_false]
                exact ih2 hm.2
      · rw [if_neg hp]
        have hm : k ∈ l.map (·.1) := by
          rw [List.map_cons, List.mem_cons] at hc'
          rcases hc' with h | h
          · exact absurd h.symm hp
          · exact h
        by_cases hpk : p.1 = k'
        · have hk : ¬ k' = k := by rw [← hpk]; exact hp
          simp [hpk, if_neg hk]
        · simp only [hpk, decide_false]
          exact ih hm
  · rw [if_neg hc]
    have hc' : ∀ p ∈ l, p.1 ≠ k := by
      intro p hp e
      exact hc (List.contains_iff_mem.2 (List.mem_map.2 ⟨p, hp, e⟩))
    rw [List.find?_append]
    by_cases hk : k' = k
    · subst hk
      rw [List.find?_eq_none.2 (fun p hp => by simpa using hc' p hp)]
      simp
    · have h1 : ¬ k = k' := fun e => hk e.symm
      cases hf : l.find? (fun p => decide (p.1 = k')) with
      | none => simp [h1, if_neg hk]
      | some p => simp [if_neg hk]
theorem map_eq_set {l : List (κ × Value)} (hn : (l.map (·.1)).Nodup) {i : Nat} (hil : i < l.length) {k : κ} (hk : l[i].1 = k) (v : Value) : l.map (fun p => if p.1 = k then (k, v) else p) = l.set i (k, v) := by
  apply List.ext_getElem?
  intro j
  rw [List.getElem?_set, List.getElem?_map]
  by_cases hij : i = j
  · subst hij
    rw [List.getElem?_eq_getElem hil]
    simp [hk, hil]
  · rw [if_neg hij]
    cases hj : l[j]? with
    | none => rfl
    | some p =>
      have hne : ¬ p.1 = k := by
        intro e
        rw [List.getElem?_eq_some_iff] at hj
        obtain ⟨hj, rfl⟩ := hj
        refine hij ((List.getElem_inj (xs := l.map (·.1)) (i := i) (j := j) (h₀ := by simpa using hil) (h₁ := by simpa using hj) hn).1 ?_)
        simp [hk, e]
      simp [hne]
theorem hasMap_put (K : MapKey P kt κ) {t e : TypeId} (ht : P.underlying t = some (.map kt e)) (h : HasMap K.enc w b l) (k : κ) (v : Value) :
    ∃ o, (Instr.mapUpdate t (.map (some b)) (K.enc k) v).run P w = .ok () (setB w b o) ∧ HasMap K.enc (setB w b o) b (mPut l k v) := by
  have hlt := h.lt
  obtain ⟨es, clock, hb, he, hn, h3, h4⟩ := h
  have hk : es.toList.map (·.key) = (l.map (·.1)).map K.enc := by
    have := congrArg (List.map Prod.fst) he
    simpa [List.map_map, Function.comp_def] using this
  have hf := K.find k es.toList (l.map (·.1)) 0 w hk
  have hget : (Sem.run P (getObj b) w) = .ok (.map es clock) w := by simp [getObj, Sem.run, hb]
  have hset : ∀ es' c', (Sem.run P (setObj b (.map es' c')) w) = .ok () (setB w b (.map es' c')) := fun es' c' => by simp [setObj, Sem.run, hb, setB]
  have hc := K.check k false w
  have hle : es.toList.length = l.length := by simpa using congrArg List.length he
  simp only [Instr.mapUpdate, Sem.run_bind, run_underlying ht, Result.andThen_ok, hget, hc, hf, Sem.run_pure]
  cases hi : (l.map (·.1)).idxOf? k with
  | none =>
    have hc2 : ¬ (l.map (·.1)).contains k = true := by
      rw [List.idxOf?_eq_none_iff] at hi
      simpa using hi
    refine ⟨_, by simp only [Option.bind_none]; exact hset _ _, _, _, setB_same hlt, ?_, mPut_nodup hn k v, ?_, ?_⟩
    · unfold mPut
      rw [if_neg hc2]
      simp [he]
    · intro e1 he1
      simp only [Array.toList_push, List.mem_append, List.mem_singleton] at he1
      rcases he1 with h | rfl
      · have := h3 e1 h; omega
      · simp
    · simp only [Array.toList_push, List.map_append, List.map_cons, List.map_nil]
      rw [List.nodup_append]
      refine ⟨h4, by simp, ?_⟩
      intro a ha b hb e
      simp at hb
      obtain ⟨x, hx, rfl⟩ := List.mem_map.1 ha
      have := h3 x hx
      omega
  | some i =>
    have hi' := hi
    rw [List.idxOf?_eq_some_iff] at hi'
    obtain ⟨hil, hik, _⟩ := hi'
    simp only [List.length_map] at hil
    have h1 : es.toList[i]? = some (es.toList[i]'(by omega)) := List.getElem?_eq_getElem (by omega)
    have hkey : (es.toList[i]'(by omega)).key = K.enc k := by
      have := congrArg (fun q => q[i]?) hk
      simp only [List.getElem?_map, h1, Option.map_some] at this
      rw [List.getElem?_eq_getElem hil] at this
      simp only [List.getElem_map, Option.map_some, Option.some.injEq] at this hik
      rw [this]
      congr 1
    have h1' : es[i]? = some (es.toList[i]'(by omega)) := by simp
    have hik' : l[i].1 = k := by
      simp only [List.getElem_map] at hik
      first | exact hik | exact beq_iff_eq.1 hik
    have hc2 : (l.map (·.1)).contains k = true := List.contains_iff_mem.2 (List.mem_map.2 ⟨l[i], List.getElem_mem _, hik'⟩)
    have hmod : (es.modify i fun e => { e with key := K.enc k, val := v }).toList = es.toList.set i { (es.toList[i]'(by omega)) with key := K.enc k, val := v } := by
      apply List.ext_getElem?
      intro j
      rw [List.getElem?_set]
      by_cases hij : i = j
      · subst hij
        simp [Array.getElem?_modify, h1', show i < es.size from by simpa using (show i < es.toList.length by omega)]
      · simp [Array.getElem?_modify, hij]
    simp only [Option.bind_some, h1, Option.map_some, h1', Option.getD_some, hkey, keyThatStays, K.same k, if_true, Sem.run_pure, Result.andThen_ok, Sem.run_bind, hset]
    refine ⟨_, rfl, _, _, setB_same hlt, ?_, mPut_nodup hn k v, ?_, ?_⟩
    · rw [hmod]
      unfold mPut
      rw [if_pos hc2, map_eq_set hn hil hik', List.map_set, List.map_set, he]
    · intro e1 he1
      rw [hmod] at he1
      rcases List.mem_or_eq_of_mem_set he1 with h | rfl
      · exact h3 e1 h
      · exact h3 (es.toList[i]'(by omega)) (List.getElem_mem _)
    · rw [hmod, List.map_set]
      have : (es.toList.map (·.born)).set i (es.toList[i]'(by omega)).born = es.toList.map (·.born) := by
        apply List.ext_getElem?
        intro j
        rw [List.getElem?_set]
        split
        · rename_i e; subst e
          rw [List.getElem?_map, h1]
          have : i < es.size := by simpa using (show i < es.toList.length by omega)
          simp [this]
        · rfl
      show ((es.toList.map (·.born)).set i (es.toList[i]'(by omega)).born).Nodup
      rw [this]
      exact h4
end
section
variable {P : Program}
theorem findNow_int {q : IntKind} (k : Int) : ∀ (es : List MapEntry) (ks : List Int) (i : Nat), es.map (·.key) = ks.map (Value.int q) →
    findNow (.int q) (.int q k) es i = some ((ks.idxOf? k).bind fun j => (es[j]?).map fun e => (i + j, e.val))
  | [], ks, i, h => by
    cases ks with
    | nil => simp [findNow]
    | cons k ks => simp at h
  | e :: es, ks, i, h => by
    cases ks with
    | nil => simp at h
    | cons k1 ks =>
      simp only [List.map_cons, List.cons.injEq] at h
      obtain ⟨h1, h2⟩ := h
      have ih := findNow_int k es ks (i + 1) h2
      unfold findNow
      simp only [h1, sameNow, if_true]
      rw [List.idxOf?_cons]
      by_cases hk : k = k1
      · subst hk; simp
      · have h3 : (k == k1) = false := by simpa using hk
        have h4 : (k1 == k) = false := by simpa using fun e => hk e.symm
        rw [h3, h4]
        simp only [ih]
        cases ks.idxOf? k with
        | none => simp
        | some j => simp [Nat.add_assoc, Nat.add_comm 1 j]
/-- keys that are whole numbers of one kind -/
def intKey {kt : TypeId} {q : IntKind} (h : P.underlying kt = some (.int q)) : MapKey P kt Int where
  enc := Value.int q
  same := fun k => by simp [sameBits]
  check := fun k b w => by
    unfold checkKey
    simp [run_underlying h, Result.andThen]
  find := fun k es ks _ w he => by
    unfold findKey
    simp only [Sem.run_bind, run_underlying h, Result.andThen_ok, findNow_int k es ks 0 he, Sem.run_pure, Nat.zero_add]
/-- keys that are two whole numbers -/
def enc2 (p : Int × Int) : Value := .agg #[.int .i64 p.1, .int .i64 p.2]
theorem findNow_struct {d : TypeDesc} (hd : ∀ a b, sameNow d (.agg a) (.agg b) = none) (k : Int × Int) (es : List MapEntry) (ks : List (Int × Int)) (i : Nat) (he : es.map (·.key) = ks.map enc2) :
    findNow d (enc2 k) es i = if es = [] then some none else none := by
  cases es with
  | nil => rfl
  | cons e es =>
    cases ks with
    | nil => simp at he
    | cons k1 ks =>
      simp only [List.map_cons, List.cons.injEq] at he
      unfold findNow
      rw [he.1]
      simp [enc2, hd]
theorem beq_inst : (instBEqProd : BEq (Int × Int)) = instBEqOfDecidableEq := by
  have : ∀ a b : Int × Int, (instBEqProd : BEq (Int × Int)).beq a b = (instBEqOfDecidableEq : BEq (Int × Int)).beq a b := fun a b => by
    rw [Bool.eq_iff_iff]
    exact (beq_iff_eq (a := a) (b := b)).trans (by simp [instBEqOfDecidableEq])
  have h2 : (instBEqProd : BEq (Int × Int)).beq = (instBEqOfDecidableEq : BEq (Int × Int)).beq := funext fun a => funext fun b => this a b
  exact congrArg BEq.mk h2
theorem findAsking_2 {kt : TypeId} (heq : ∀ (p q : Int × Int) w, (Op.equal kt (enc2 p) (enc2 q)).run P w = .ok (decide (p = q)) w) (k : Int × Int) (w : World) : ∀ (es : List MapEntry) (ks : List (Int × Int)) (i : Nat), es.map (·.key) = ks.map enc2 →
    (findAsking kt (enc2 k) es i).run P w = .ok ((ks.idxOf? k).bind fun j => (es[j]?).map fun e => (i + j, e.val)) w
  | [], ks, i, h => by
    cases ks with
    | nil => simp [findAsking]
    | cons k ks => simp at h
  | e :: es, ks, i, h => by
    cases ks with
    | nil => simp at h
    | cons k1 ks =>
      simp only [List.map_cons, List.cons.injEq] at h
      obtain ⟨h1, h2⟩ := h
      have ih := findAsking_2 heq k w es ks (i + 1) h2
      unfold findAsking
      simp only [h1, Sem.run_bind, heq, Result.andThen_ok]
      rw [List.idxOf?_cons]
      by_cases hk : k = k1
      · subst hk; simp
      · have h4 : (k1 == k) = false := by simpa using fun e => hk e.symm
        rw [h4]
        simp only [hk, decide_false, Bool.false_eq_true, if_false, ih]
        cases ks.idxOf? k with
        | none => simp
        | some j => simp [Nat.add_assoc, Nat.add_comm 1 j]
def pairKey {kt : TypeId} {d : TypeDesc} (hu : P.underlying kt = some d) (hd : ∀ a b, sameNow d (.agg a) (.agg b) = none) (heq : ∀ (p q : Int × Int) w, (Op.equal kt (enc2 p) (enc2 q)).run P w = .ok (decide (p = q)) w)
    (hcheck : ∀ k b w, (checkKey b 10000 kt (enc2 k)).run P w = .ok () w) : MapKey P kt (Int × Int) where
  enc := enc2
  same := fun k => by simp [sameBits, enc2]
  check := hcheck
  find := fun k es ks _ w he => by
    unfold findKey
    simp only [Sem.run_bind, run_underlying hu, Result.andThen_ok, findNow_struct hd k es ks 0 he]
    by_cases h : es = []
    · subst h
      cases ks with
      | nil => simp
      | cons k ks => simp at he
    · rw [if_neg h]
      simp only [findAsking_2 heq k w es ks 0 he, Nat.zero_add]
      exact congrArg (fun (i : BEq (Int × Int)) => Result.ok ((@List.idxOf? _ i k ks).bind fun j => Option.map (fun e => (j, e.val)) es[j]?) w) beq_inst
end
section
variable {P : Program} {kt : TypeId} {κ : Type} [DecidableEq κ] {w : World} {b : Nat} {l : List (κ × Value)}
theorem wpList_mapPut (K : MapKey P kt κ) {ops : Array Oper} {rest : List Oper} {o : Oper} {a : Act} {Q : Exit → Act → World → Prop} (hg : o.guard = none) (m x v : Operand) (t : TypeId) {e : TypeId} (hop : o.op = Op.mapUpdate t m x v)
    (ht : P.underlying t = some (.map kt e)) (hm : a.eval m = .map (some b)) (h : HasMap K.enc w b l) (k : κ) (hx : a.eval x = K.enc k) (val : Value) (hv : a.eval v = val)
    (hK : ∀ w1, HasMap K.enc w1 b (mPut l k val) → w.grownBy w1 (some b) → wpList P ops Q rest (a.put o.dst undef) w1) : wpList P ops Q (o :: rest) a w := by
  refine wpList_plain hg fun K' hK' => ?_
  obtain ⟨ob, hrun, h1⟩ := hasMap_put K ht h k val
  unfold Oper.wp
  simp [execOp, hop, hm, hx, hv, hrun, Result.andThen]
  exact hK' _ _ (hK _ h1 ⟨rfl, rfl, rfl, by simp [setB], fun i _ hi => setB_other (fun e => hi (by rw [e]))⟩)
end
end Go.Proofs.Ytfoeddmbhmfjcaa
/- log.free, log.Check. -/
namespace Go.Proofs.Ytfoeddmbhmfjcaa
open Go.RowKit

/-- log.free -/
theorem free_calls (s : Sg) (A : Option Addr) (c : Nat) (w : World) :
    Calls Try.prog 52 #[.agg #[.int .i64 s.seq, .slice A s.blocks.length c]] w fun e w' => e = .returned (.bool (freeB s)) ∧ Below w.heap.size w w' := by
  go_enter Try.func52, Try.ntmps52
  go_wp2
  all_goals
    go_ret
    exact ⟨ret_bool (by simp [freeB]; omega), (Below.refl _ _).alloc (Nat.le_refl _) _⟩

/-- one segment more: is all well, and which numbers were seen -/
def chkStep (next : Int) (q : Bool × List Int) (x : Sg) : Bool × List Int :=
  if (!q.1 || freeB x) = true then q else (sgOk x && decide (x.seq < next) && !decide (x.seq ∈ q.2), x.seq :: q.2)
def chkHead (s : St) : Bool := decide (1 ≤ s.segs.length ∧ s.segs.length ≤ 64 ∧ s.held.length = s.segs.length ∧ 1 ≤ s.next ∧ s.next ≤ 1099511627776 ∧ s.opn.length ≤ 8)
def chkFold (s : St) (k : Nat) : Bool × List Int := (s.segs.take k).foldl (chkStep s.next) (chkHead s && s.opn.all mayBlk, [])
/-- may a state be? -/
def chk (s : St) : Bool := (chkFold s s.segs.length).1
theorem chkFold_succ (s : St) {k : Nat} {x : Sg} (h : s.segs[k]? = some x) : chkFold s (k + 1) = chkStep s.next (chkFold s k) x := by
  unfold chkFold
  obtain ⟨hk, rfl⟩ := List.getElem?_eq_some_iff.1 h
  rw [List.take_succ_eq_append_getElem hk, List.foldl_append]; rfl

theorem seen_put {x : Sg} {next : Int} {l : List (Int × Value)} {seen : List Int} (h : ∀ q, (mGet l q).getD (.bool false) = .bool (decide (q ∈ seen))) (hf : freeB x = false) (q : Int) :
    (mGet (mPut l x.seq (.bool true)) q).getD (.bool false) = .bool (decide (q ∈ (chkStep next (true, seen) x).2)) := by
  rw [mGet_mPut]
  have e : (chkStep next (true, seen) x).2 = x.seq :: seen := by simp [chkStep, hf]
  rw [e]
  by_cases hq : q = x.seq
  · simp [hq]
  · rw [if_neg hq, h q]
    simp [hq]

theorem keys131 : Try.prog.underlying 3 = some (.int .i64) := Try.underlying3
def kInt : MapKey Try.prog 3 Int := intKey Try.underlying3
theorem zero4 (w : World) : (zeroValue 4).run Try.prog w = .ok (.bool false) w := by kernel_rfl

set_option maxRecDepth 100000 in
set_option maxHeartbeats 1000000 in
theorem check_calls {P : Nat → Prop} (s : St) (A0 A1 A2 : Option Addr) (c0 c1 c2 : Nat) (w : World) (h0 : RdS tSg 32 w P A0 c0 s.segs) (h2 : RdS tBlk 40 w P A2 c2 s.opn) :
    Calls Try.prog 46 #[.agg #[.slice A0 s.segs.length c0, .slice A1 s.held.length c1, .slice A2 s.opn.length c2, .int .i64 s.next]] w fun e w' => e = .returned (.int .i64 (errOf (chk s))) ∧ Below w.heap.size w w' := by
  have hl0 : s.segs.length ≤ 9223372036854775807 := by have := h0.2.1; unfold reachB at this; omega
  have hl2 : s.opn.length ≤ 9223372036854775807 := by have := h2.2.1; unfold reachB at this; omega
  have H0 := Lib.hid h0
  have H2 := Lib.hid h2
  clear h0 h2
  have hmm := @run_makeMap Try.prog
  go_enter Try.func46, Try.ntmps46
  go_upto_region 2 with fail
  go_cut [4] (fun s4 wx => s4 = .bool (chkHead s) ∧ wx = w.alloc (.cells #[.slice A0 s.segs.length c0, .slice A1 s.held.length c1, .slice A2 s.opn.length c2, .int .i64 s.next] 36))
  case first =>
    go_wp2_with fail
    all_goals
      go_meet
      case rel => exact ⟨bool_v (by simp [chkHead]; omega), rfl⟩
  case rest =>
  obtain ⟨rfl, rfl⟩ := hcut
  generalize hq : chkHead s = q
  have HQ := Lib.hid hq
  clear hq
  go_upto_region 3 with fail
  go_cut [4] (fun s4 wx => s4 = .bool (q && s.opn.all mayBlk) ∧ Hid (Below (w.heap.size + 1) (w.alloc (.cells #[.slice A0 s.segs.length c0, .slice A1 s.held.length c1, .slice A2 s.opn.length c2, .int .i64 s.next] 36)) wx))
  case first =>
    cases q
    · go_wp2
      go_meet
      case rel => exact ⟨rfl, Below.refl _ _⟩
    · go_wp2_with (go_at_call 74; refine (containsFunc_calls _ _ says1 A2 c2 s.opn _ (H2.out.below ((Below.refl _ _).alloc (Nat.le_refl _) _))).mono ?_; rintro e w1 ⟨rfl, hb⟩)
      go_meet
      case rel => exact ⟨by rw [any_not]; simp, Lib.hid (by simpa using hb)⟩
  case rest =>
  obtain ⟨rfl, hb1⟩ := hcut
  have hbx : Hid (wc.heap[w.heap.size]? = some (.cells #[.slice A0 s.segs.length c0, .slice A1 s.held.length c1, .slice A2 s.opn.length c2, .int .i64 s.next] 36 (0, 0))) := (hb1.out.block _ (Nat.lt_succ_self _)).trans (heap_alloc_new w _)
  have hbw : Hid (Below w.heap.size w wc) := ((Below.refl _ _).alloc (Nat.le_refl _) _).trans (hb1.out.mono (Nat.le_succ _))
  have hsz : w.heap.size < wc.heap.size := lt_of_heap hbx.out
  clear hb1
  have n0 := cell_of hbx.out 0 rfl
  generalize hq2 : (q && s.opn.all mayBlk) = q2
  have HQ2 := Lib.hid hq2
  clear hq2
  go_wp2
  go_loopg [4, 51] s.segs.length (fun g s4 i wr => ∃ k : Nat, k ≤ s.segs.length ∧ g = s.segs.length - k ∧ i = .int .i64 k ∧ s4 = .bool (chkFold s k).1 ∧ Hid (Below w.heap.size w wr) ∧
    Hid (wr.heap[w.heap.size]? = some (.cells #[.slice A0 s.segs.length c0, .slice A1 s.held.length c1, .slice A2 s.opn.length c2, .int .i64 s.next] 36 (0, 0))) ∧
    Hid (∃ l : List (Int × Value), HasMap (Value.int .i64) wr wc.heap.size l ∧ ∀ q, (mGet l q).getD (.bool false) = .bool (decide (q ∈ (chkFold s k).2))))
  case atStart =>
    refine ⟨0, Nat.zero_le _, rfl, rfl, ?_, ?_, ?_, ?_⟩
    · simp [chkFold, HQ.out, HQ2.out]
    · exact hbw.out.alloc (Nat.le_of_lt hsz) _
    · exact heap_alloc hbx.out _
    · exact ⟨[], hasMap_made _ _, fun q => by simp [chkFold, mGet]⟩
  case round =>
    obtain ⟨k, hk, rfl, rfl, rfl, hb, hbx2, hm⟩ := hrel
    clear n0
    by_cases hlt : k < s.segs.length
    · obtain ⟨x, hx⟩ : ∃ x, s.segs[k]? = some x := ⟨_, List.getElem?_eq_getElem hlt⟩
      obtain ⟨b, off, Ad, cd, rfl, _, hx0, hx1, hxb, hxw⟩ := (H0.out.below hb.out).sgAt hx
      have HS := Lib.hid (chkFold_succ s hx)
      clear hx
      obtain ⟨l, hl, hl2⟩ := hm.out
      have HL := Lib.hid hl
      have HL2 := Lib.hid hl2
      clear hl hl2 hm
      generalize hf : chkFold s k = f at HS HL2
      have HF := Lib.hid hf
      clear hf
      obtain ⟨ok, seen⟩ := f
      cases ok
      · go_wp2
        go_roundg (s.segs.length - (k + 1))
        case measure => omega
        case rel => exact ⟨k + 1, by omega, rfl, by go_num, by rw [HS.out]; rfl, hb.out.alloc hb.out.size _, heap_alloc hbx2.out _, l, HL.out.below (Below.refl _ _ |>.alloc (Nat.le_refl _) _), by rw [HS.out]; exact HL2.out⟩
      · go_wp2_with fail
        refine (free_calls x Ad cd _).mono ?_
        rintro e w1 ⟨rfl, hb1⟩
        have G1 := Lib.hid (heap_below hb1 (heap_alloc_new wr (.cells #[.int .i64 x.seq, .slice Ad x.blocks.length cd] 62)))
        have S1 := Lib.hid (heap_below hb1 (heap_alloc hbx2.out (.cells #[.int .i64 x.seq, .slice Ad x.blocks.length cd] 62)))
        have B1 := Lib.hid (((hb.out.alloc hb.out.size _).trans (hb1.mono (by have := hb.out.size; simp; omega)) : Below w.heap.size w w1))
        have M1 := Lib.hid (HL.out.below (((Below.refl _ _).alloc (Nat.le_refl _) _).trans (hb1.mono (by simp)) : Below wr.heap.size wr w1))
        have hxb1 := Lib.hid (hxb.below (((Below.refl _ _).alloc (Nat.le_refl _) _).trans (hb1.mono (by simp)) : Below wr.heap.size wr w1))
        clear hb1 HL hbx2 hb hx0 hx1 hxb
        generalize hfb : freeB x = fb at HS
        have HFB := Lib.hid hfb
        clear hfb
        cases fb
        · have g0 := cell_of G1.out 0 rfl
          have g1 := cell_of G1.out 1 rfl
          go_wp2_with fail
          refine (sgCheck_calls x Ad cd _ hxb1.out).mono ?_
          rintro e w2 ⟨rfl, hb2⟩
          clear g0 g1
          have G2 := Lib.hid (heap_below hb2 G1.out)
          have S2 := Lib.hid (heap_below hb2 S1.out)
          have B2 := Lib.hid (B1.out.trans (hb2.mono B1.out.size))
          have M2 := Lib.hid (M1.out.below hb2)
          clear hb2 G1 S1 B1 M1 hxb1
          have g0 := cell_of G2.out 0 rfl
          have s3 := cell_of S2.out 3 rfl
          have hlk : (Instr.lookup 131 (.map (some wc.heap.size)) (.int .i64 x.seq) false).run Try.prog w2 = _ := hasMap_get kInt Try.underlying131 M2.out x.seq (zero4 w2)
          rw [HL2.out] at hlk
          generalize hsg : sgOk x = sg at HS
          have HSG := Lib.hid hsg
          clear hsg
          cases sg
          · go_wp2_with (at_mapUpdate; refine wpList_mapPut kInt rfl _ _ _ 131 rfl Try.underlying131 rfl M2.out x.seq rfl _ rfl ?_; intro w3 hm3 hg3)
            go_roundg (s.segs.length - (k + 1))
            case measure => omega
            case rel => exact ⟨k + 1, by omega, rfl, by go_num, by rw [HS.out]; simp [chkStep, HFB.out, HSG.out], B2.out.trans (grown_below hg3 B2.out.size (by intro k e; injection e with e; omega)), heap_grown hg3 (by intro e; injection e with e; omega) S2.out, _, hm3, fun q => by rw [HS.out]; exact seen_put HL2.out HFB.out q⟩
          · by_cases hsn : x.seq < s.next
            · generalize hmm : decide (x.seq ∈ seen) = mm at hlk HS
              have HMM := Lib.hid hmm
              clear hmm
              cases mm
              all_goals
                go_wp2_with (at_mapUpdate; refine wpList_mapPut kInt rfl _ _ _ 131 rfl Try.underlying131 rfl M2.out x.seq rfl _ rfl ?_; intro w3 hm3 hg3)
                go_roundg (s.segs.length - (k + 1))
                case measure => omega
                case rel => exact ⟨k + 1, by omega, rfl, by go_num, by rw [HS.out]; simp [chkStep, HFB.out, HSG.out, hsn, HMM.out], B2.out.trans (grown_below hg3 B2.out.size (by intro k e; injection e with e; omega)), heap_grown hg3 (by intro e; injection e with e; omega) S2.out, _, hm3, fun q => by rw [HS.out]; exact seen_put HL2.out HFB.out q⟩
            · go_wp2_with (at_mapUpdate; refine wpList_mapPut kInt rfl _ _ _ 131 rfl Try.underlying131 rfl M2.out x.seq rfl _ rfl ?_; intro w3 hm3 hg3)
              go_roundg (s.segs.length - (k + 1))
              case measure => omega
              case rel => exact ⟨k + 1, by omega, rfl, by go_num, by rw [HS.out]; simp [chkStep, HFB.out, HSG.out]; intro h_; omega, B2.out.trans (grown_below hg3 B2.out.size (by intro k e; injection e with e; omega)), heap_grown hg3 (by intro e; injection e with e; omega) S2.out, _, hm3, fun q => by rw [HS.out]; exact seen_put HL2.out HFB.out q⟩
        · go_wp2
          go_roundg (s.segs.length - (k + 1))
          case measure => omega
          case rel => exact ⟨k + 1, by omega, rfl, by go_num, by rw [HS.out]; simp [chkStep, HFB.out], B1.out, S1.out, l, M1.out, by rw [HS.out]; simp [chkStep, HFB.out]; exact HL2.out⟩
    · obtain rfl : k = s.segs.length := by omega
      generalize hc : (chkFold s s.segs.length).1 = c
      have HC := Lib.hid hc
      clear hc
      cases c
      all_goals
        go_wp2
        go_ret
        exact ⟨ret_int (by rw [chk, HC.out]; rfl), hb.out⟩
end Go.Proofs.Ytfoeddmbhmfjcaa
/- bytes.Clone and slices.Clone: a row of the call's own, whose elements lead where the old ones led. -/
namespace Go.Proofs.Ytfoeddmbhmfjcaa
open Go.RowKit
theorem C_nil_of {α : Type} {T : Ty α} {w : World} {P : Nat → Prop} {xs : List α} (h : T.C w P none xs) : xs = [] := by
  cases xs with
  | nil => rfl
  | cons x xs => obtain ⟨b, off, e, _⟩ := h (by simp); cases e

theorem info5 : (Try.prog.info? 5).map (fun i => (i.zero, i.size, i.bytes)) = some (some (.int .u8 0), 1, 1) := by kernel_rfl
set_option maxHeartbeats 400000 in
theorem bytesClone_calls {P : Nat → Prop} (A : Option Addr) (c : Nat) (xs : List Int) (w : World) (h : RdS (Ty.int .u8) 1 w P A c xs) :
    Calls Try.prog 64 #[.slice A xs.length c] w fun e w' => ∃ v, e = .returned v ∧ (Ty.int .u8).RowI 5 w' w.heap.size (fun _ => P) v xs ∧ Below w.heap.size w w' := by
  have q : ∀ (w : World) (a : Option Addr) (n c n' c' : Nat), (binOp .eql 53 (.slice a n c) (.slice none n' c')).run Try.prog w = .ok (.bool a.isNone) w := fun w a n c n' c' => Lib.run_eql_slice_nil w _ _ a n c n' c' Try.underlying53
  have H := Lib.hid h
  clear h
  cases A with
  | none =>
    obtain rfl := C_nil_of H.out.2.2
    go_enter Try.func64, Try.ntmps64
    go_wp2
    go_ret
    exact ⟨_, rfl, Ty.RowI_nil _ _ _ _ _, Below.refl _ _⟩
  | some a =>
    go_enter Try.func64, Try.ntmps64
    go_wp2_with (at_builtin; refine Ty.wpList_append_Row (T := (Ty.int .u8)) (e := 5) (t := 53) (B := w.heap.size) (PI := fun _ => P) (Pn := fun k => P k ∧ k < w.heap.size) (xs := []) (ys := xs) (A := some a) (c := c) rfl (.tmp 5) (.tmp 6) rfl (z := (.int .u8 0)) (bytes := 1) Try.underlying53 info5 rfl (by decide) rfl rfl ?aO ?aR ?aN ?aB ?aL ?_)
    case aO => exact ⟨[], World.ownsRow_made w #[] 0 (Nat.le_refl _) (Nat.zero_le _) rfl, fun i x hx => by simp at hx⟩
    case aR => exact Ty.C_CC <| Ty.C_below (Ty.C_lt H.out.2.2) ((Below.refl _ _).alloc (Nat.le_refl _) _)
    case aN => rintro k ⟨_, hk⟩ _ e; have e2 : k = w.heap.size := Option.some.inj e; omega
    case aB => simp
    case aL => have := H.out.2.1; unfold reachB at this; simp; omega
    intro v1 w1 hr hg _
    go_wp2
    go_ret
    exact ⟨_, rfl, Ty.RowI_mono hr (fun i k _ hk _ => (show P k ∧ k < w.heap.size by simpa using hk).1), ((Below.refl _ w).alloc (Nat.le_refl _) _).grown hg (by simp) (by intro k hk; simp [Value.ownBlock] at hk; omega)⟩

theorem info4 : (Try.prog.info? 4).map (fun i => (i.zero, i.size, i.bytes)) = some (some (.bool false), 1, 1) := by kernel_rfl
set_option maxHeartbeats 400000 in
theorem cloneBools_calls {P : Nat → Prop} (A : Option Addr) (c : Nat) (xs : List Bool) (w : World) (h : RdS Ty.bool 1 w P A c xs) :
    Calls Try.prog 78 #[.slice A xs.length c] w fun e w' => ∃ v, e = .returned v ∧ Ty.bool.RowI 4 w' w.heap.size (fun _ => P) v xs ∧ Below w.heap.size w w' := by
  have q : ∀ (w : World) (a : Option Addr) (n c n' c' : Nat), (binOp .eql 29 (.slice a n c) (.slice none n' c')).run Try.prog w = .ok (.bool a.isNone) w := fun w a n c n' c' => Lib.run_eql_slice_nil w _ _ a n c n' c' Try.underlying29
  have H := Lib.hid h
  clear h
  cases A with
  | none =>
    obtain rfl := C_nil_of H.out.2.2
    go_enter Try.func78, Try.ntmps78
    go_wp2
    go_ret
    exact ⟨_, rfl, Ty.RowI_nil _ _ _ _ _, Below.refl _ _⟩
  | some a =>
    go_enter Try.func78, Try.ntmps78
    go_wp2_with (at_builtin; refine Ty.wpList_append_Row (T := Ty.bool) (e := 4) (t := 29) (B := w.heap.size) (PI := fun _ => P) (Pn := fun k => P k ∧ k < w.heap.size) (xs := []) (ys := xs) (A := some a) (c := c) rfl (.tmp 5) (.tmp 6) rfl (z := (.bool false)) (bytes := 1) Try.underlying29 info4 rfl (by decide) rfl rfl ?aO ?aR ?aN ?aB ?aL ?_)
    case aO => exact ⟨[], World.ownsRow_made w #[] 0 (Nat.le_refl _) (Nat.zero_le _) rfl, fun i x hx => by simp at hx⟩
    case aR => exact Ty.C_CC <| Ty.C_below (Ty.C_lt H.out.2.2) ((Below.refl _ _).alloc (Nat.le_refl _) _)
    case aN => rintro k ⟨_, hk⟩ _ e; have e2 : k = w.heap.size := Option.some.inj e; omega
    case aB => simp
    case aL => have := H.out.2.1; unfold reachB at this; simp; omega
    intro v1 w1 hr hg _
    go_wp2
    go_ret
    exact ⟨_, rfl, Ty.RowI_mono hr (fun i k _ hk _ => (show P k ∧ k < w.heap.size by simpa using hk).1), ((Below.refl _ w).alloc (Nat.le_refl _) _).grown hg (by simp) (by intro k hk; simp [Value.ownBlock] at hk; omega)⟩

theorem info57 : (Try.prog.info? 57).map (fun i => (i.zero, i.size, i.bytes)) = some (some (.agg #[.int .i64 0, .int .i64 0, .slice none 0 0]), 3, 40) := by kernel_rfl
set_option maxHeartbeats 400000 in
theorem cloneBlks_calls {P : Nat → Prop} (A : Option Addr) (c : Nat) (xs : List Blk) (w : World) (h : RdS tBlk 40 w P A c xs) :
    Calls Try.prog 80 #[.slice A xs.length c] w fun e w' => ∃ v, e = .returned v ∧ tBlk.RowI 57 w' w.heap.size (fun _ => P) v xs ∧ Below w.heap.size w w' := by
  have q : ∀ (w : World) (a : Option Addr) (n c n' c' : Nat), (binOp .eql 34 (.slice a n c) (.slice none n' c')).run Try.prog w = .ok (.bool a.isNone) w := fun w a n c n' c' => Lib.run_eql_slice_nil w _ _ a n c n' c' Try.underlying34
  have H := Lib.hid h
  clear h
  cases A with
  | none =>
    obtain rfl := C_nil_of H.out.2.2
    go_enter Try.func80, Try.ntmps80
    go_wp2
    go_ret
    exact ⟨_, rfl, Ty.RowI_nil _ _ _ _ _, Below.refl _ _⟩
  | some a =>
    go_enter Try.func80, Try.ntmps80
    go_wp2_with (at_builtin; refine Ty.wpList_append_Row (T := tBlk) (e := 57) (t := 34) (B := w.heap.size) (PI := fun _ => P) (Pn := fun k => P k ∧ k < w.heap.size) (xs := []) (ys := xs) (A := some a) (c := c) rfl (.tmp 5) (.tmp 6) rfl (z := (.agg #[.int .i64 0, .int .i64 0, .slice none 0 0])) (bytes := 40) Try.underlying34 info57 rfl (by decide) rfl rfl ?aO ?aR ?aN ?aB ?aL ?_)
    case aO => exact ⟨[], World.ownsRow_made w #[] 0 (Nat.le_refl _) (Nat.zero_le _) rfl, fun i x hx => by simp at hx⟩
    case aR => exact Ty.C_CC <| Ty.C_below (Ty.C_lt H.out.2.2) ((Below.refl _ _).alloc (Nat.le_refl _) _)
    case aN => rintro k ⟨_, hk⟩ _ e; have e2 : k = w.heap.size := Option.some.inj e; omega
    case aB => simp
    case aL => have := H.out.2.1; unfold reachB at this; simp; omega
    intro v1 w1 hr hg _
    go_wp2
    go_ret
    exact ⟨_, rfl, Ty.RowI_mono hr (fun i k _ hk _ => (show P k ∧ k < w.heap.size by simpa using hk).1), ((Below.refl _ w).alloc (Nat.le_refl _) _).grown hg (by simp) (by intro k hk; simp [Value.ownBlock] at hk; omega)⟩

theorem info62 : (Try.prog.info? 62).map (fun i => (i.zero, i.size, i.bytes)) = some (some (.agg #[.int .i64 0, .slice none 0 0]), 2, 32) := by kernel_rfl
set_option maxHeartbeats 400000 in
theorem cloneSgs_calls {P : Nat → Prop} (A : Option Addr) (c : Nat) (xs : List Sg) (w : World) (h : RdS tSg 32 w P A c xs) :
    Calls Try.prog 77 #[.slice A xs.length c] w fun e w' => ∃ v, e = .returned v ∧ tSg.RowI 62 w' w.heap.size (fun _ => P) v xs ∧ Below w.heap.size w w' := by
  have q : ∀ (w : World) (a : Option Addr) (n c n' c' : Nat), (binOp .eql 33 (.slice a n c) (.slice none n' c')).run Try.prog w = .ok (.bool a.isNone) w := fun w a n c n' c' => Lib.run_eql_slice_nil w _ _ a n c n' c' Try.underlying33
  have H := Lib.hid h
  clear h
  cases A with
  | none =>
    obtain rfl := C_nil_of H.out.2.2
    go_enter Try.func77, Try.ntmps77
    go_wp2
    go_ret
    exact ⟨_, rfl, Ty.RowI_nil _ _ _ _ _, Below.refl _ _⟩
  | some a =>
    go_enter Try.func77, Try.ntmps77
    go_wp2_with (at_builtin; refine Ty.wpList_append_Row (T := tSg) (e := 62) (t := 33) (B := w.heap.size) (PI := fun _ => P) (Pn := fun k => P k ∧ k < w.heap.size) (xs := []) (ys := xs) (A := some a) (c := c) rfl (.tmp 5) (.tmp 6) rfl (z := (.agg #[.int .i64 0, .slice none 0 0])) (bytes := 32) Try.underlying33 info62 rfl (by decide) rfl rfl ?aO ?aR ?aN ?aB ?aL ?_)
    case aO => exact ⟨[], World.ownsRow_made w #[] 0 (Nat.le_refl _) (Nat.zero_le _) rfl, fun i x hx => by simp at hx⟩
    case aR => exact Ty.C_CC <| Ty.C_below (Ty.C_lt H.out.2.2) ((Below.refl _ _).alloc (Nat.le_refl _) _)
    case aN => rintro k ⟨_, hk⟩ _ e; have e2 : k = w.heap.size := Option.some.inj e; omega
    case aB => simp
    case aL => have := H.out.2.1; unfold reachB at this; simp; omega
    intro v1 w1 hr hg _
    go_wp2
    go_ret
    exact ⟨_, rfl, Ty.RowI_mono hr (fun i k _ hk _ => (show P k ∧ k < w.heap.size by simpa using hk).1), ((Below.refl _ w).alloc (Nat.le_refl _) _).grown hg (by simp) (by intro k hk; simp [Value.ownBlock] at hk; omega)⟩
end Go.Proofs.Ytfoeddmbhmfjcaa
/- log.cloneBlocks: blocks in memory of their own. -/
namespace Go.Proofs.Ytfoeddmbhmfjcaa
open Go.RowKit
theorem flat_C {k : IntKind} {e : TypeId} {w : World} {B : Nat} {PI : Nat → Nat → Prop} {A : Option Addr} {n c : Nat} {xs : List Int} (h : (Ty.int k).RowI e w B PI (.slice A n c) xs) : (Ty.int k).C w (fun b => B ≤ b) A xs :=
  Ty.RowI_C (PI := fun _ b => B ≤ b) (by obtain ⟨cells, ho, hc⟩ := h; exact ⟨cells, ho, fun i x hx => hc i x hx⟩) (fun _ _ _ hk _ => hk) (fun _ hk => (Ty.RowI_lt h hk).1)
theorem flat_C_bool {e : TypeId} {w : World} {B : Nat} {PI : Nat → Nat → Prop} {A : Option Addr} {n c : Nat} {xs : List Bool} (h : Ty.bool.RowI e w B PI (.slice A n c) xs) : Ty.bool.C w (fun b => B ≤ b) A xs :=
  Ty.RowI_C (PI := fun _ b => B ≤ b) (by obtain ⟨cells, ho, hc⟩ := h; exact ⟨cells, ho, fun i x hx => hc i x hx⟩) (fun _ _ _ hk _ => hk) (fun _ hk => (Ty.RowI_lt h hk).1)
theorem set_same {α : Type} {l : List α} {k : Nat} {x : α} (h : l[k]? = some x) : l.set k x = l := by
  apply List.ext_getElem?
  intro j
  rw [List.getElem?_set]
  split
  · rename_i e; subst e
    rw [h, if_pos (by rw [List.getElem?_eq_some_iff] at h; exact h.1)]
  · rfl
theorem upd_mono {F P : Nat → Prop} {i k b : Nat} (h : (if i = k then F else fun b => if i < k then F b else P b) b) : if i < k + 1 then F b else P b := by
  by_cases e : i = k
  · rw [if_pos e] at h; rw [if_pos (by omega)]; exact h
  · rw [if_neg e] at h
    by_cases e2 : i < k
    · rw [if_pos e2] at h; rw [if_pos (by omega)]; exact h
    · rw [if_neg e2] at h; rw [if_neg (by omega)]; exact h
set_option maxRecDepth 20000 in
set_option maxHeartbeats 1000000 in
theorem cloneBlocks_calls {P : Nat → Prop} (A : Option Addr) (c : Nat) (l : List Blk) (w : World) (h : RdS tBlk 40 w P A c l) :
    Calls Try.prog 57 #[.slice A l.length c] w fun e w' => ∃ v, e = .returned v ∧ tBlk.Row 57 w' w.heap.size (fun b => w.heap.size ≤ b) v l ∧ Below w.heap.size w w' := by
  have H := Lib.hid h
  clear h
  have hlen : l.length ≤ 9223372036854775807 := by have := H.out.2.1; unfold reachB at this; omega
  go_enter Try.func57, Try.ntmps57
  go_wp2_with fail
  refine (cloneBlks_calls A c l _ H.out).mono ?_
  rintro e w1 ⟨v, rfl, hr, hb⟩
  obtain ⟨A1, c1, rfl, hc1⟩ := Ty.Row_slice hr
  have HR := Lib.hid hr
  have HB := Lib.hid hb
  clear hr hb
  go_wp2
  go_loopw [10] (fun i wr => ∃ k : Nat, k ≤ l.length ∧ i = .int .i64 k ∧ Hid (tBlk.RowI 57 wr w.heap.size (fun i b => if i < k then w.heap.size ≤ b else P b) (.slice A1 l.length c1) l) ∧ Hid (Below w.heap.size w wr)) (fun i _ => l.length - (intOf i).toNat)
  case atStart => exact ⟨0, Nat.zero_le _, rfl, Ty.RowI_mono HR.out (fun i b _ hp _ => by simpa using hp), HB.out⟩
  case round =>
    obtain ⟨k, hk, rfl, hr, hb⟩ := hrel
    by_cases hlt : k < l.length
    · obtain ⟨x, hx⟩ : ∃ x, l[k]? = some x := ⟨_, List.getElem?_eq_getElem hlt⟩
      obtain ⟨g, c2, e1, hg1, hg2, _⟩ := Ty.RowI_form hr.out (by omega)
      injection e1 with e1 _ e2
      subst e1
      clear e2
      obtain ⟨cs, hrep, hcs⟩ := Ty.RowI_at hr.out hx
      obtain ⟨Ad, cd, rfl, w1', w2', hd⟩ := blk_open hrep
      have h0 : wr.cell? ⟨g, k * 3, none⟩ = _ := (hcs 0 _ rfl).1
      have h1 : wr.cell? ⟨g, k * 3 + 1, none⟩ = _ := (hcs 1 _ rfl).1
      have h2 : wr.cell? ⟨g, k * 3 + 2, none⟩ = _ := (hcs 2 _ rfl).1
      have HX := Lib.hid hx
      have hbo := hb.out.size
      have hdl := hd.2.1
      clear hx hcs hrep
      go_wp2_with fail
      refine (bytesClone_calls Ad cd x.data _ (hd.below ((Below.refl _ _).alloc (Nat.le_refl _) _))).mono ?_
      rintro e w2 ⟨v2, rfl, hr2, hb2⟩
      clear h0 h1 h2 hd
      obtain ⟨A3, c3, rfl, hc3⟩ := Ty.Row_slice hr2
      have HB2 := Lib.hid (((Below.refl _ _).alloc (Nat.le_refl _) _).trans (hb2.mono (by simp)) : Below wr.heap.size wr w2)
      have HR2 := Lib.hid (Ty.RowI_frame hr.out (fun q hq => HB2.out.block q (Ty.RowI_lt hr.out hq).2) (fun _ q _ _ hq _ => HB2.out.block q hq))
      obtain ⟨cs, hrep, hcs⟩ := Ty.RowI_at HR2.out HX.out
      obtain ⟨Ad2, cd2, rfl, _, _, _⟩ := blk_open hrep
      have h2 : w2.cell? ⟨g, k * 3 + 2, none⟩ = _ := (hcs 2 _ rfl).1
      have f2 : w2.frozen? ⟨g, k * 3 + 2, none⟩ = false := (hcs 2 _ rfl).2
      have hnew := Lib.hid (Ty.RowI_set HR2.out HX.out (fun j u hu => (hcs j u hu).1) rfl (Pk := fun b => w.heap.size ≤ b) (j := 2) (by decide) (.slice A3 x.data.length c3)
        (blk_mk w1' w2' ⟨hc3, hdl, Ty.C_mono (fun b hb _ => by simp at hb; exact ⟨by omega, by omega⟩) (flat_C hr2)⟩))
      have HS := Lib.hid (((hb.out.trans (HB2.out.mono hbo)).setCell (p := ⟨g, k * 3 + 2, none⟩) hg1 (.slice A3 x.data.length c3)) : Below w.heap.size w _)
      clear hrep hcs hr2 hb2 hr hb
      go_wp2
      go_roundw
      case rel => exact ⟨k + 1, by omega, by go_num, by have := hnew.out; rw [set_same HX.out] at this; exact Ty.RowI_mono this (fun i b _ hp _ => upd_mono hp), HS.out⟩
      case measure => simp [intOf]; omega
    · go_wp2
      go_ret
      exact ⟨_, rfl, ⟨fun q hq => (Ty.RowI_lt hr.out hq).1, Ty.RowI_mono hr.out (fun i b hi hp _ => by rw [if_pos (by omega)] at hp; exact hp)⟩, hb.out⟩
end Go.Proofs.Ytfoeddmbhmfjcaa
/- A region that draws its order: what is loaded need stand only until a given operation (the first store) has come up. -/
namespace Go.Proofs.Ytfoeddmbhmfjcaa
open Go.RowKit
section
variable {P : Program} {ops : Array Oper} {Q : Exit → Act → World → Prop} {S : World → Prop}
/-- Whatever order is picked: S holds behind every operation, until number d has come up. -/
def wpAnyD (P : Program) (ops : Array Oper) (Q : Exit → Act → World → Prop) (S : World → Prop) (d : Nat) : Nat → Array Bool → Act → World → Prop
  | 0, listed, a, w => Region.ready .any ops listed = [] ∧ Q .normal a w
  | fuel + 1, listed, a, w =>
    (Region.ready .any ops listed = [] → Q .normal a w) ∧
    ∀ i ∈ Region.ready .any ops listed, wpOp P ops Q i (fun a' w' => ((listed.setIfInBounds i true).getD d false = false → S w') ∧ wpAnyD P ops Q S d fuel (listed.setIfInBounds i true) a' w') a w
theorem wpAny_of_D {d : Nat} : ∀ (fuel : Nat) (listed : Array Bool) (a : Act) (w : World), wpAnyD P ops Q S d fuel listed a w → wpAny P .any ops Q fuel listed a w
  | 0, _, _, _, h => h
  | fuel + 1, _, _, _, h => ⟨h.1, fun i hi => wpOp_mono (fun a' w' h' => wpAny_of_D fuel _ a' w' h'.2) (h.2 i hi)⟩
/-- what has come up has all come up that it waits for -/
def Closed (ops : Array Oper) (listed : Array Bool) : Prop := ∀ k o, ops[k]? = some o → listed.getD k false = true → ∀ e ∈ o.after, Region.binds .any e = true → listed.getD e.on false = true
theorem Closed.set {listed : Array Bool} {j : Nat} (h : Closed ops listed) (hj : j ∈ Region.ready .any ops listed) : Closed ops (listed.setIfInBounds j true) := by
  intro k o ho hk e he hb
  by_cases hjk : j = k
  · subst hjk
    obtain ⟨_, o', ho', hall⟩ := mem_ready.1 hj
    rw [ho] at ho'
    cases ho'
    exact getD_set_true (hall e he hb)
  · rw [getD_set_ne false hjk] at hk
    exact getD_set_true (h k o ho hk e he hb)
/-- does number d wait for number i? -/
def waitsFor (ops : Array Oper) (i : Nat) : Nat → Nat → Bool
  | 0, _ => false
  | n + 1, d => d == i || ((ops[d]?).map fun o => o.after.any fun e => Region.binds .any e && waitsFor ops i n e.on).getD false
theorem waits_spec {i : Nat} {listed : Array Bool} (hc : Closed ops listed) : ∀ (n d : Nat), waitsFor ops i n d = true → listed.getD d false = true → listed.getD i false = true
  | 0, _, h, _ => by simp [waitsFor] at h
  | n + 1, d, h, hd => by
    unfold waitsFor at h
    rw [Bool.or_eq_true] at h
    rcases h with h | h
    · rw [← beq_iff_eq.1 h]; exact hd
    · cases ho : ops[d]? with
      | none => rw [ho] at h; simp at h
      | some o =>
        rw [ho] at h
        simp only [Option.map_some, Option.getD_some, Array.any_eq_true] at h
        obtain ⟨k, hk, h⟩ := h
        rw [Bool.and_eq_true] at h
        exact waits_spec hc n _ h.2 (hc d o ho hd _ (Array.getElem_mem hk) h.1)
theorem unlisted_of {listed : Array Bool} {i : Nat} (h : listed.getD i true = false) : listed.getD i false = false := by
  rcases Nat.lt_or_ge i listed.size with h' | h'
  · simpa [Array.getElem?_eq_getElem h'] using h
  · simp [Array.getElem?_eq_none h'] at h
theorem need_S {d n i : Nat} (hw : waitsFor ops i n d = true) (listed : Array Bool) (w : World) (hc : Closed ops listed) (hr : i ∈ Region.ready .any ops listed) (h : listed.getD d false = false → S w) : S w := by
  apply h
  have h0 := unlisted_of (mem_ready.1 hr).1
  cases hdl : listed.getD d false with
  | false => rfl
  | true => rw [waits_spec hc n d hw hdl] at h0; cases h0
theorem wpAnyD_first {S' : World → Prop} {d i : Nat} {oi : Oper} {v : Value} (hi : ops[i]? = some oi) (hsel : ∀ (j : Nat) (o : Oper) cs b, ops[j]? = some o → o.op ≠ .select cs b)
    (hQ : ∀ c a w, Q (.panic c) (a.put oi.dst v) w → Q (.panic c) a w) (hid : i ≠ d)
    (hneed : ∀ (listed : Array Bool) (w : World), Closed ops listed → i ∈ Region.ready .any ops listed → (listed.getD d false = false → S w) → S' w) :
    ∀ (fuel : Nat) (listed : Array Bool) (a : Act) (w : World), Closed ops listed →
      (∀ j oj, ops[j]? = some oj → j ≠ i → listed.getD j true = false → (∀ e ∈ oj.after, Region.binds .any e = true → e.on ≠ i) → oi.apart ops oj = true) →
      i ∈ Region.ready .any ops listed → YieldsIf P ops S' oi v a → (listed.getD d false = false → S w) →
      wpAnyD P ops Q S d fuel (listed.setIfInBounds i true) (a.put oi.dst v) w → wpAnyD P ops Q S d (fuel + 1) listed a w := by
  have hsd : ∀ (l : Array Bool), (l.setIfInBounds i true).getD d false = l.getD d false := fun l => getD_set_ne false hid
  intro fuel
  induction fuel with
  | zero =>
    intro listed a w hc _ hr hy hS H
    refine ⟨fun h => (by rw [h] at hr; cases hr), fun j hj => ?_⟩
    by_cases hji : j = i
    · subst hji
      exact hy.wpOp hi (hneed listed w hc hr hS) ⟨fun h => hS (by rw [hsd] at h; exact h), H⟩
    · have := ready_mono hj hji
      rw [H.1] at this
      cases this
  | succ fuel ih =>
    intro listed a w hc hfree hr hy hS H
    refine ⟨fun h => (by rw [h] at hr; cases hr), fun j hj => ?_⟩
    by_cases hji : j = i
    · subst hji
      exact hy.wpOp hi (hneed listed w hc hr hS) ⟨fun h => hS (by rw [hsd] at h; exact h), H⟩
    · have h1 := H.2 j (ready_mono hj hji)
      obtain ⟨hjun, oj, hoj, hall⟩ := mem_ready.1 hj
      have hnot : ∀ e ∈ oj.after, Region.binds .any e = true → e.on ≠ i := fun e he hb heq => by
        have h1 := hall e he hb
        have h0 := unlisted_of (mem_ready.1 hr).1
        rw [heq] at h1
        rw [h1] at h0
        cases h0
      have h2 := wpOp_putIf hoj (hfree j oj hoj hji hjun hnot) (fun cs b => hsel i oi cs b hi) (fun cs b => hsel j oj cs b hoj) hQ hy h1
      have hfree' : ∀ k ok, ops[k]? = some ok → k ≠ i → (listed.setIfInBounds j true).getD k true = false →
          (∀ e ∈ ok.after, Region.binds .any e = true → e.on ≠ i) → oi.apart ops ok = true := fun k ok hk hki hun hno => by
        refine hfree k ok hk hki ?_ hno
        by_cases hjk : j = k
        · subst hjk; exact hjun
        · rw [getD_set_ne true hjk] at hun; exact hun
      have hcomm : (listed.setIfInBounds i true).setIfInBounds j true = (listed.setIfInBounds j true).setIfInBounds i true := Array.setIfInBounds_comm _ _ (Ne.symm hji)
      refine wpOp_mono (fun a' w' h3 => ?_) h2
      have hS' : (listed.setIfInBounds j true).getD d false = false → S w' := fun h => h3.2.1 (by rw [hcomm, hsd]; exact h)
      refine ⟨hS', ih (listed.setIfInBounds j true) a' w' (hc.set hj) hfree' (ready_mono hr (Ne.symm hji)) h3.1 hS' ?_⟩
      rw [← hcomm]
      exact h3.2.2
/-- the values of operations that are taken one behind the other -/
def TakesD (P : Program) (ops : Array Oper) (S : World → Prop) : List (Nat × Bool × Tmp × Value) → Act → Prop
  | [], _ => True
  | (i, f, x, v) :: l, a => (∀ oi, ops[i]? = some oi → YieldsIf P ops (if f then S else fun _ => True) oi v a ∧ TakesD P ops S l (a.put (some x) v))
def putsD : List (Nat × Bool × Tmp × Value) → Act → Act
  | [], a => a
  | (_, _, x, v) :: l, a => putsD l (a.put (some x) v)
def listsD : List Nat → Array Bool → Array Bool
  | [], l => l
  | i :: is, l => listsD is (l.setIfInBounds i true)
def closedB (ops : Array Oper) (listed : Array Bool) : Bool := (List.range ops.size).all fun k => !listed.getD k false || ((ops[k]?).map fun o => o.after.all fun e => !Region.binds .any e || listed.getD e.on false).getD true
theorem closedB_spec {listed : Array Bool} (h : closedB ops listed = true) : Closed ops listed := by
  intro k o ho hk e he hb
  have hlt : k < ops.size := (Array.getElem?_eq_some_iff.1 ho).1
  have h1 := List.all_eq_true.1 h k (List.mem_range.2 hlt)
  rw [ho, hk] at h1
  simp only [Bool.not_true, Bool.false_or, Option.map_some, Option.getD_some] at h1
  have h2 := (Array.all_eq_true_iff_forall_mem.1 h1) e he
  simpa [hb] using h2
/-- may they be taken so? -/
def takeOk (ops : Array Oper) (d : Nat) : List (Nat × Bool × Tmp) → Array Bool → Bool
  | [], _ => true
  | (i, f, x) :: is, l => ((ops[i]?).bind (·.dst) == some x) && (i != d) && (!f || waitsFor ops i ops.size d) && closedB ops l && Region.free .any ops l i && (Region.ready .any ops l).contains i && takeOk ops d is (l.setIfInBounds i true)
def keysD (l : List (Nat × Bool × Tmp × Value)) : List (Nat × Bool × Tmp) := l.map fun z => (z.1, z.2.1, z.2.2.1)
theorem wpAnyD_takes {d : Nat} (hs : Region.noSelect ops = true) (hQ : ∀ (x : Tmp) v c a w, Q (.panic c) (a.put (some x) v) w → Q (.panic c) a w) : ∀ (l : List (Nat × Bool × Tmp × Value)) {fuel : Nat} {listed : Array Bool} {a : Act} {w : World},
    takeOk ops d (keysD l) listed = true → TakesD P ops S l a → (listed.getD d false = false → S w) →
    wpAnyD P ops Q S d fuel (listsD ((keysD l).map (·.1)) listed) (putsD l a) w → wpAnyD P ops Q S d (fuel + l.length) listed a w
  | [], _, _, _, _, _, _, _, h => h
  | (i, f, x, v) :: l, fuel, listed, a, w, hok, hy, hS, h => by
    simp only [keysD, List.map_cons, takeOk, Bool.and_eq_true, bne_iff_ne] at hok
    obtain ⟨⟨⟨⟨⟨⟨h0, h1⟩, h2⟩, h3⟩, h4⟩, h5⟩, h6⟩ := hok
    have hr : i ∈ Region.ready .any ops listed := by simpa using h5
    obtain ⟨_, oi, hoi, _⟩ := mem_ready.1 hr
    obtain ⟨hy1, hy2⟩ := hy oi hoi
    have hdst : oi.dst = some x := by simpa [hoi] using h0
    have hfree := Region.free_spec hoi h4
    have := wpAnyD_takes hs hQ l (fuel := fuel) (listed := listed.setIfInBounds i true) (a := a.put (some x) v) (w := w) h6 hy2 (fun hh => hS (by rw [getD_set_ne false h1] at hh; exact hh)) h
    have hQ' : ∀ c a w, Q (.panic c) (a.put oi.dst v) w → Q (.panic c) a w := by
      intro c a w h
      rw [hdst] at h
      exact hQ x v c a w h
    refine wpAnyD_first (S' := if f then S else fun _ => True) hoi (Region.noSelect_spec hs) hQ' h1 ?_ (fuel + l.length) listed a w (closedB_spec h3) hfree hr hy1 hS (by rw [hdst]; exact this)
    intro listed' w' hc hr' h'
    cases f with
    | false => trivial
    | true => exact need_S (by simpa using h2) listed' w' hc hr' h'
/-- several are taken; what they leave, laid out -/
theorem wpAnyD_take {d : Nat} (ks : List (Nat × Bool × Tmp)) (l : List (Nat × Bool × Tmp × Value)) {n fuel : Nat} {listed : Array Bool} {a a' : Act} {w : World} (hs : Region.noSelect ops = true) (hQ : ∀ (x : Tmp) v c a w, Q (.panic c) (a.put (some x) v) w → Q (.panic c) a w)
    (hok : takeOk ops d ks listed = true) (hk : keysD l = ks) (hn : n = fuel + l.length) (hy : TakesD P ops S l a) (hS : listed.getD d false = false → S w) (ha : putsD l a = a')
    (h : wpAnyD P ops Q S d fuel (listsD (ks.map (·.1)) listed) a' w) : wpAnyD P ops Q S d n listed a w := by
  subst ha
  subst hk
  subst hn
  exact wpAnyD_takes hs hQ l hok hy hS h
theorem takes_nil {a : Act} : TakesD P ops S [] a := trivial
theorem takes_cons {i : Nat} {f : Bool} {x : Tmp} {v : Value} {l : List (Nat × Bool × Tmp × Value)} {a : Act} {oi : Oper} (ho : ops[i]? = some oi) (hw : Region.wanted oi (yielded ops a.tmps) = true)
    (h : ∀ w, (if f then S else fun _ => True) w → (execOp a.eval oi).run P w = .ok (.value v) w) (hl : TakesD P ops S l (a.put (some x) v)) : TakesD P ops S ((i, f, x, v) :: l) a := by
  intro o ho'
  rw [ho] at ho'
  cases ho'
  exact ⟨.inl ⟨hw, h⟩, hl⟩
/-- one alone may come up -/
theorem wpAnyD_one {d i : Nat} {o : Oper} {fuel : Nat} {listed : Array Bool} {a : Act} {w : World} (hr : Region.ready .any ops listed = [i]) (ho : ops[i]? = some o)
    (h : ∀ K' : Act → World → Prop, Hid (∀ a' w', ((listed.setIfInBounds i true).getD d false = false → S w') → wpAnyD P ops Q S d fuel (listed.setIfInBounds i true) a' w' → K' a' w') →
      if Region.wanted o (yielded ops a.tmps) = true then Oper.wp P o a w K' Q else K' (a.put o.dst undef) w) : wpAnyD P ops Q S d (fuel + 1) listed a w := by
  refine ⟨fun h0 => (by rw [hr] at h0; cases h0), fun j hj => ?_⟩
  rw [hr] at hj
  obtain rfl : j = i := by simpa using hj
  exact wpOp_step ho (fun K' hK => h K' (fun a' w' hS hW => hK a' w' ⟨hS, hW⟩))
/-- from number k on they come up one behind the other -/
def chainOk (ops : Array Oper) : Nat → Nat → Array Bool → Bool
  | _, 0, l => Region.ready .any ops l == []
  | k, m + 1, l => (Region.ready .any ops l == [k]) && chainOk ops (k + 1) m (l.setIfInBounds k true)
theorem wpAnyD_chain {d : Nat} : ∀ (m k : Nat) (l : List Oper) (listed : Array Bool) (a : Act) (w : World), l.length = m → (∀ j, l[j]? = ops[k + j]?) → chainOk ops k m listed = true → listed.getD d false = true → wpList P ops Q l a w → wpAnyD P ops Q S d m listed a w
  | 0, k, l, listed, a, w, hl, hj, hc, hd, h => by
    obtain rfl := List.eq_nil_of_length_eq_zero hl
    exact ⟨by simpa [chainOk] using hc, h⟩
  | m + 1, k, l, listed, a, w, hl, hj, hc, hd, h => by
    cases l with
    | nil => simp at hl
    | cons o l =>
      simp only [chainOk, Bool.and_eq_true, beq_iff_eq] at hc
      have ho : ops[k]? = some o := by simpa using (hj 0).symm
      refine ⟨fun h0 => (by rw [hc.1] at h0; cases h0), fun i hi => ?_⟩
      rw [hc.1] at hi
      obtain rfl : i = k := by simpa using hi
      have hd' : (listed.setIfInBounds i true).getD d false = true := getD_set_true hd
      have h2 : wpOp P ops Q i (wpList P ops Q l) a w := by
        unfold wpOp
        rw [ho]
        exact h
      exact wpOp_mono (fun a' w' h3 => ⟨fun h4 => (by rw [hd'] at h4; cases h4), wpAnyD_chain m (i + 1) l _ a' w' (by simpa using hl) (fun j => by have := hj (j + 1); simpa [Nat.add_assoc, Nat.add_comm 1 j] using this) hc.2 hd' h3⟩) h2
theorem wpAnyD_tail {k m : Nat} (l : List Oper) {listed : Array Bool} {a : Act} {w : World} (hl : l.length = m + 1) (hj : ops.toList.drop k = l) (hc : chainOk ops k (m + 1) listed = true) (hk : decide (k < listed.size) = true) (h : wpList P ops Q l a w) : wpAnyD P ops Q S k (m + 1) listed a w := by
  replace hk := of_decide_eq_true hk
  have hj' : ∀ j, l[j]? = ops[k + j]? := by intro j; rw [← hj, List.getElem?_drop, Array.getElem?_toList]
  cases l with
  | nil => simp at hl
  | cons o l =>
    simp only [chainOk, Bool.and_eq_true, beq_iff_eq] at hc
    have ho : ops[k]? = some o := by simpa using (hj' 0).symm
    refine ⟨fun h0 => (by rw [hc.1] at h0; cases h0), fun i hi => ?_⟩
    rw [hc.1] at hi
    obtain rfl : i = k := by simpa using hi
    have hd' : (listed.setIfInBounds i true).getD i false = true := by simp [hk]
    have h2 : wpOp P ops Q i (wpList P ops Q l) a w := by
      unfold wpOp
      rw [ho]
      exact h
    exact wpOp_mono (fun a' w' h3 => ⟨fun h4 => (by rw [hd'] at h4; cases h4), wpAnyD_chain m (i + 1) l _ a' w' (by simpa using hl) (fun j => by have := hj' (j + 1); simpa [Nat.add_assoc, Nat.add_comm 1 j] using this) hc.2 hd' h3⟩) h2
theorem wpAnyD_done {d : Nat} {listed : Array Bool} {a : Act} {w : World} (hr : Region.ready .any ops listed = []) (h : Q .normal a w) : ∀ fuel, wpAnyD P ops Q S d fuel listed a w
  | 0 => ⟨hr, h⟩
  | _ + 1 => ⟨fun _ => h, by rw [hr]; simp⟩
/-- The beginning. d: the first operation that may spoil S. -/
theorem wp_region_D (d n : Nat) {id : Nat} {a : Act} {w : World} (hm : P.follows .mixedOrders = true) (hn : ops.size = n) (h : wpAnyD P ops Q S d n (Array.replicate n false) a w.drew) : (Code.region id ops true).wp P Q a w :=
  wp_region_any hm (wpAny_of_D _ _ _ _ (by subst hn; exact h))
end
end Go.Proofs.Ytfoeddmbhmfjcaa
/- (log.State).clone: a state in memory of its own. -/
namespace Go.Proofs.Ytfoeddmbhmfjcaa
open Go.RowKit
theorem setCell3_other {w : World} {b k : Nat} {a0 a1 a2 : Value} (h : b ≠ k) : (((w.setCell ⟨b, 0, none⟩ a0).setCell ⟨b, 1, none⟩ a1).setCell ⟨b, 2, none⟩ a2).heap[k]? = w.heap[k]? := by
  rw [Below.heap_setCell _ _ _ _ (Ne.symm h), Below.heap_setCell _ _ _ _ (Ne.symm h), Below.heap_setCell _ _ _ _ (Ne.symm h)]
theorem sz_lt {w w1 : World} {n : Nat} (h : Below n w w1) : w.heap.size ≤ w1.heap.size := h.size
/-- what clone leaves: three rows, one behind the other in memory -/
def Cloned (w w' : World) (s : St) (Q : Nat → Prop) (n1 n2 n3 : Nat) (v0 v1 v2 : Value) : Prop :=
  tSg.RowI 62 w' (w.heap.size + 2) (fun _ k => Q k) v0 s.segs ∧ (∀ k, v0.ownBlock = some k → k < n1) ∧ Ty.bool.RowI 4 w' n1 (fun _ _ => True) v1 s.held ∧ (∀ k, v1.ownBlock = some k → k < n2) ∧
  tBlk.Row 57 w' n2 (fun k => n2 ≤ k) v2 s.opn ∧ (∀ k, v2.ownBlock = some k → k < n3) ∧ w.heap.size + 2 ≤ n1 ∧ n1 ≤ n2 ∧ n2 ≤ n3 ∧ n3 ≤ w'.heap.size
set_option maxRecDepth 100000 in
set_option maxHeartbeats 2000000 in
theorem stClone_calls {P : Nat → Prop} (s : St) (A0 A1 A2 : Option Addr) (c0 c1 c2 : Nat) (w : World) (h0 : RdS tSg 32 w P A0 c0 s.segs) (h1 : RdS Ty.bool 1 w P A1 c1 s.held) (h2 : RdS tBlk 40 w P A2 c2 s.opn) :
    Calls Try.prog 53 #[.agg #[.slice A0 s.segs.length c0, .slice A1 s.held.length c1, .slice A2 s.opn.length c2, .int .i64 s.next]] w fun e w' => ∃ v0 v1 v2 n1 n2 n3, e = .returned (.agg #[v0, v1, v2, .int .i64 s.next]) ∧ Cloned w w' s (fun k => n3 ≤ k) n1 n2 n3 v0 v1 v2 ∧ Below w.heap.size w w' := by
  have hl0 : s.segs.length ≤ 9223372036854775807 := by have := h0.2.1; unfold reachB at this; omega
  have H0 := Lib.hid h0.lt
  have H1 := Lib.hid h1
  have H2 := Lib.hid h2
  clear h0 h1 h2
  go_enter Try.func53, Try.ntmps53
  go_upto_region 1 with fail
  generalize hw0 : (w.alloc (.cells #[.slice A0 s.segs.length c0, .slice A1 s.held.length c1, .slice A2 s.opn.length c2, .int .i64 s.next] 36)).alloc (.cells #[.slice none 0 0, .slice none 0 0, .slice none 0 0, .int .i64 0] 36) = w0
  have hs0 : w0.heap.size = w.heap.size + 2 := by rw [← hw0]; simp
  have hbx : Hid (w0.heap[w.heap.size]? = some (.cells #[.slice A0 s.segs.length c0, .slice A1 s.held.length c1, .slice A2 s.opn.length c2, .int .i64 s.next] 36 (0, 0))) := by rw [← hw0]; exact heap_alloc (heap_alloc_new w _) _
  have hbr : Hid (w0.heap[w.heap.size + 1]? = some (.cells #[.slice none 0 0, .slice none 0 0, .slice none 0 0, .int .i64 0] 36 (0, 0))) := by rw [← hw0]; have := heap_alloc_new (w.alloc (.cells #[.slice A0 s.segs.length c0, .slice A1 s.held.length c1, .slice A2 s.opn.length c2, .int .i64 s.next] 36)) (.cells #[.slice none 0 0, .slice none 0 0, .slice none 0 0, .int .i64 0] 36); exact Lib.hid (by simpa using this)
  have hB0 : Hid (Below w.heap.size w w0) := by rw [← hw0]; exact ((Below.refl _ _).alloc (Nat.le_refl _) _).alloc (by simp) _
  clear hw0
  have o0 := cell_of hbx.out 0 rfl
  have o1 := cell_of hbx.out 1 rfl
  have o2 := cell_of hbx.out 2 rfl
  go_cut [1] (fun s1 wx => ∃ D0 d0 D1 d1 D2 d2 n1 n2 n3, s1 = .pointer (some ⟨w.heap.size, 0, none⟩) ∧ Hid (wx.heap[w.heap.size]? = some (.cells #[.slice D0 s.segs.length d0, .slice D1 s.held.length d1, .slice D2 s.opn.length d2, .int .i64 s.next] 36 (0, 0))) ∧
    Hid (wx.heap[w.heap.size + 1]? = some (.cells #[.slice none 0 0, .slice none 0 0, .slice none 0 0, .int .i64 0] 36 (0, 0))) ∧ Hid (Cloned w wx s (fun k => P k ∧ k < w.heap.size) n1 n2 n3 (.slice D0 s.segs.length d0) (.slice D1 s.held.length d1) (.slice D2 s.opn.length d2)) ∧ Hid (Below w.heap.size w wx))
  case first =>
    refine wp_region_D 10 15 (S := fun w' => w'.cell? ⟨w.heap.size, 0, none⟩ = some (.slice A0 s.segs.length c0) ∧ w'.cell? ⟨w.heap.size, 1, none⟩ = some (.slice A1 s.held.length c1) ∧ w'.cell? ⟨w.heap.size, 2, none⟩ = some (.slice A2 s.opn.length c2)) (by kernel_rfl) rfl ?_
    refine wpAnyD_take [(0, false, 5), (1, true, 6), (3, false, 8), (4, true, 9), (6, false, 11), (7, true, 12)] [(0, false, 5, .pointer (some ⟨w.heap.size, 0, none⟩)), (1, true, 6, .slice A0 s.segs.length c0), (3, false, 8, .pointer (some ⟨w.heap.size, 1, none⟩)), (4, true, 9, .slice A1 s.held.length c1), (6, false, 11, .pointer (some ⟨w.heap.size, 2, none⟩)), (7, true, 12, .slice A2 s.opn.length c2)] (by kernel_rfl) (fun _ _ _ _ _ h => h) (by kernel_rfl) rfl rfl ?ty (fun _ => ⟨o0, o1, o2⟩) (a' := ?aa) ?ta ?_
    case ta => simp only [putsD, Act.put, List.setIfInBounds_toArray, List.set_cons_zero, List.set_cons_succ]; rfl
    case ty =>
      iterate 6 (refine takes_cons rfl (by rfl) (fun w' hS => ?_) ?_; · (try obtain ⟨s0, s1, s2⟩ := hS); go_simp)
      exact takes_nil
    refine wpAnyD_one (i := 2) (by kernel_rfl) rfl (fun K hK => ?_)
    go_simp
    refine (cloneSgs_calls A0 c0 s.segs _ (H0.out.below hB0.out.drew)).mono ?_
    rintro e w1 ⟨v0, rfl, hr0, hb1⟩
    obtain ⟨D0, d0, rfl, q0⟩ := Ty.Row_slice hr0
    have hB1 := Lib.hid (hB0.out.drew.trans (hb1.mono hB0.out.size))
    have hbx1 := Lib.hid (heap_below hb1 hbx.out)
    refine hK.out _ _ (fun _ => ⟨cell_of hbx1.out 0 rfl, cell_of hbx1.out 1 rfl, cell_of hbx1.out 2 rfl⟩) ?_
    clear hK K
    refine wpAnyD_take [(9, false, 14)] [(9, false, 14, .pointer (some ⟨w.heap.size, 0, none⟩))] (by kernel_rfl) (fun _ _ _ _ _ h => h) (by kernel_rfl) rfl rfl ?ty2 (fun _ => ⟨cell_of hbx1.out 0 rfl, cell_of hbx1.out 1 rfl, cell_of hbx1.out 2 rfl⟩) (a' := ?aa2) ?ta2 ?_
    case ta2 => simp only [putsD, Act.put, List.setIfInBounds_toArray, List.set_cons_zero, List.set_cons_succ]; rfl
    case ty2 => exact takes_cons rfl (by rfl) (fun w' hS => by go_simp) takes_nil
    refine wpAnyD_one (i := 5) (by kernel_rfl) rfl (fun K hK => ?_)
    go_simp
    refine (cloneBools_calls A1 c1 s.held _ (H1.out.below hB1.out)).mono ?_
    rintro e w2 ⟨v1, rfl, hr1, hb2⟩
    obtain ⟨D1, d1, rfl, q1⟩ := Ty.Row_slice hr1
    have hB2 := Lib.hid (hB1.out.trans (hb2.mono hB1.out.size))
    have hbx2 := Lib.hid (heap_below hb2 hbx1.out)
    refine hK.out _ _ (fun _ => ⟨cell_of hbx2.out 0 rfl, cell_of hbx2.out 1 rfl, cell_of hbx2.out 2 rfl⟩) ?_
    clear hK K
    refine wpAnyD_one (i := 8) (by kernel_rfl) rfl (fun K hK => ?_)
    go_simp
    refine (cloneBlocks_calls A2 c2 s.opn _ (H2.out.below hB2.out)).mono ?_
    rintro e w3 ⟨v2, rfl, hr2, hb3⟩
    obtain ⟨D2, d2, rfl, q2⟩ := Ty.Row_slice hr2.2
    have hB3 := Lib.hid (hB2.out.trans (hb3.mono hB2.out.size))
    have hbx3 := Lib.hid (heap_below hb3 hbx2.out)
    refine hK.out _ _ (fun _ => ⟨cell_of hbx3.out 0 rfl, cell_of hbx3.out 1 rfl, cell_of hbx3.out 2 rfl⟩) ?_
    clear hK K
    refine wpAnyD_tail (m := 4) _ (by kernel_rfl) rfl (by kernel_rfl) (by kernel_rfl) ?_
    have k0 := cell_of hbx3.out 0 rfl
    have k1 := cell_of hbx3.out 1 rfl
    have k2 := cell_of hbx3.out 2 rfl
    have z0 := frozen_of hbx3.out 0
    have z1 := frozen_of hbx3.out 1
    have z2 := frozen_of hbx3.out 2
    simp only [List.drop_succ_cons, List.drop_zero]
    go_wp2_with fail
    go_meet
    case rel =>
      refine ⟨D0, d0, D1, d1, D2, d2, w1.heap.size, w2.heap.size, w3.heap.size, rfl, ?_, ?_, ?_, ?_⟩
      · exact Ty.setCell3 hbx3.out
      · exact (setCell3_other (by omega)).trans (heap_below hb3 (heap_below hb2 (heap_below hb1 hbr.out)))
      · have e1 := hb1.size
        have e2 := hb2.size
        have e3 := hb3.size
        have e0 : w0.drew.heap.size = w0.heap.size := rfl
        have fr : ∀ k, w.heap.size ≠ k → (((w3.setCell ⟨w.heap.size, 0, none⟩ (.slice D0 s.segs.length d0)).setCell ⟨w.heap.size, 1, none⟩ (.slice D1 s.held.length d1)).setCell ⟨w.heap.size, 2, none⟩ (.slice D2 s.opn.length d2)).heap[k]? = w3.heap[k]? := fun k hk => setCell3_other hk
        refine ⟨?_, fun k hk => (Ty.RowI_lt hr0 hk).2, ?_, fun k hk => (Ty.RowI_lt hr1 hk).2, ?_, fun k hk => (Ty.RowI_lt hr2.2 hk).2, by omega, by omega, by omega, by simp⟩
        · have q : tSg.RowI 62 w3 w0.drew.heap.size (fun _ k => P k ∧ k < w.heap.size) (.slice D0 s.segs.length d0) s.segs := Ty.RowI_below (Ty.RowI_below hr0 hb2) hb3
          refine Ty.RowI_low (Ty.RowI_frame q (fun k hk => fr k ?_) (fun i k _ hk _ _ => fr k ?_)) (by omega)
          · have := (Ty.RowI_lt q hk).1; omega
          · have := hk.2; omega
        · have q : Ty.bool.RowI 4 w3 w1.heap.size (fun _ _ => False) (.slice D1 s.held.length d1) s.held := Ty.RowI_flat (fun _ _ _ _ _ _ h => h) (Ty.RowI_below hr1 hb3)
          refine Ty.RowI_flat (fun _ _ _ _ _ _ h => h) (Ty.RowI_frame q (fun k hk => fr k ?_) (fun i k _ hk _ _ => hk.elim))
          have := (Ty.RowI_lt q hk).1
          omega
        · exact Ty.Row_frame hr2 (fun k hk _ => fr k (by omega))
      · exact ((hB3.out.setCell (p := ⟨w.heap.size, 0, none⟩) (Nat.le_refl _) _).setCell (p := ⟨w.heap.size, 1, none⟩) (Nat.le_refl _) _).setCell (p := ⟨w.heap.size, 2, none⟩) (Nat.le_refl _) _
  case rest =>
    obtain ⟨D0, d0, D1, d1, D2, d2, n1, n2, n3, rfl, hbx, hbr, hcl, hB⟩ := hcut
    clear o0 o1 o2
    obtain ⟨r0, g0b, r1, g1b, r2, g2b, m1, m2, m3, m4⟩ := hcl.out
    have R0 := Lib.hid r0
    clear r0
    have hbs := hB.out.size
    have n0 := cell_of hbx.out 0 rfl
    go_wp2
    go_loopg [20] s.segs.length (fun g i wr => ∃ k : Nat, k ≤ s.segs.length ∧ g = s.segs.length - k ∧ i = .int .i64 k ∧ Hid (tSg.RowI 62 wr (w.heap.size + 2) (fun i q => if i < k then wc.heap.size ≤ q else P q ∧ q < w.heap.size) (.slice D0 s.segs.length d0) s.segs) ∧
      Hid (∀ q, q < wc.heap.size → some q ≠ (Value.slice D0 s.segs.length d0).ownBlock → wr.heap[q]? = wc.heap[q]?) ∧ Hid (Below w.heap.size w wr) ∧ wc.heap.size ≤ wr.heap.size)
    case atStart => exact ⟨0, Nat.zero_le _, rfl, rfl, Ty.RowI_mono R0.out (fun i q _ h _ => by simpa using h), fun _ _ _ => rfl, hB.out, Nat.le_refl _⟩
    case round =>
      obtain ⟨k, hk, rfl, rfl, hr, hf, hb, hsz⟩ := hrel
      clear n0
      by_cases hlt : k < s.segs.length
      · obtain ⟨x, hx⟩ : ∃ x, s.segs[k]? = some x := ⟨_, List.getElem?_eq_getElem hlt⟩
        obtain ⟨g, c2', e1, hg1, hg2, _⟩ := Ty.RowI_form hr.out (by omega)
        injection e1 with e1 _ e2
        subst e1
        clear e2
        have hgn : g < n1 := g0b g rfl
        obtain ⟨cs, hrep, hcs⟩ := Ty.RowI_at hr.out hx
        obtain ⟨Ad, cd, rfl, w1', hd⟩ := sg_open hrep
        have h0 : wr.cell? ⟨g, k * 2, none⟩ = _ := (hcs 0 _ rfl).1
        have h1 : wr.cell? ⟨g, k * 2 + 1, none⟩ = _ := (hcs 1 _ rfl).1
        have HX := Lib.hid hx
        have hbk := Lib.hid ((hf.out w.heap.size (by omega) (by intro e; have e' : w.heap.size = g := Option.some.inj e; omega)).trans hbx.out)
        clear hx hcs hrep
        go_upto_region 5 with fail
        have hxa := Lib.hid (heap_alloc_new wr (.cells #[.int .i64 x.seq, .slice Ad x.blocks.length cd] 62))
        have hba := Lib.hid (((Below.refl _ _).alloc (Nat.le_refl _) _) : Below wr.heap.size wr (wr.alloc (.cells #[.int .i64 x.seq, .slice Ad x.blocks.length cd] 62)))
        have hbka := Lib.hid (heap_alloc hbk.out (.cells #[.int .i64 x.seq, .slice Ad x.blocks.length cd] 62))
        have hda := Lib.hid (hd.below hba.out)
        have hra := Lib.hid (Ty.RowI_below hr.out hba.out)
        have hsa : (wr.alloc (.cells #[.int .i64 x.seq, .slice Ad x.blocks.length cd] 62)).heap.size = wr.heap.size + 1 := by simp
        generalize wr.alloc (.cells #[.int .i64 x.seq, .slice Ad x.blocks.length cd] 62) = wa at *
        clear h0 h1 hd
        have i1 : (0 : Int) ≤ (k : Int) := by omega
        have i2 : (k : Int) < (s.segs.length : Int) := by omega
        have hdd := Lib.hid (hda.out.below ((Below.refl _ _).drew : Below wa.heap.size wa wa.drew))
        have hrd := Lib.hid (Ty.RowI_below hra.out ((Below.refl _ _).drew : Below wa.heap.size wa wa.drew))
        have y0 := cell_of hbka.out 0 rfl
        have y1 := cell_of hxa.out 1 rfl
        go_region_held3 (fun w' => w'.cell? ⟨w.heap.size, 0, none⟩ = some (.slice (some ⟨g, 0, none⟩) s.segs.length d0) ∧ w'.cell? ⟨wr.heap.size, 1, none⟩ = some (.slice Ad x.blocks.length cd))
          (first | exact ⟨y0, y1⟩ | exact ⟨u0, u1⟩ | exact ⟨(Ty.cell_set_far (by simp; omega)).trans u0, (Ty.cell_set_far (by simp; omega)).trans u1⟩)
          (first
           | (go_at_call 57; refine (cloneBlocks_calls Ad cd x.blocks _ hdd.out).mono ?_; rintro e w2 ⟨v2, rfl, hr2, hb2⟩; obtain ⟨D3, d3, rfl, q3⟩ := Ty.Row_slice hr2.2;
              have u0 := cell_of (heap_below hb2 hbka.out) 0 rfl; have u1 := cell_of (heap_below hb2 hxa.out) 1 rfl; have HR2 := Lib.hid (Ty.RowI_below hrd.out hb2); have HC2 := Lib.hid (Ty.RowI_at HR2.out HX.out);
              obtain ⟨cs, hrep, hcs⟩ := HC2.out; obtain ⟨Ad2, cd2, rfl, _, _⟩ := sg_open hrep; have t1 : w2.cell? ⟨g, k * 2 + 1, none⟩ = _ := (hcs 1 _ rfl).1; have f1 : w2.frozen? ⟨g, k * 2 + 1, none⟩ = false := (hcs 1 _ rfl).2))
        have hbs2 := hb2.size
        have hws : wa.drew.heap.size = wa.heap.size := rfl
        have HB2 := Lib.hid ((((hb.out.trans (hba.out.mono hb.out.size)).drew).trans (hb2.mono (by omega))) : Below w.heap.size w w2)
        have HF2 := Lib.hid (fun q (hq : q < wr.heap.size) => (hb2.block q (by omega)).trans (hba.out.block q hq))
        have hnew := Lib.hid (Ty.RowI_set HR2.out HX.out (fun j u hu => (hcs j u hu).1) rfl (Pk := fun b => wc.heap.size ≤ b) (j := 1) (by decide) (.slice D3 x.blocks.length d3)
          (sg_mk w1' ⟨q3, hdd.out.2.1, Ty.C_mono (fun b hb _ => ⟨by omega, by omega⟩) (Ty.Row_C hr2)⟩))
        go_wp2
        go_roundg (s.segs.length - (k + 1))
        case measure => omega
        case rel =>
          refine ⟨k + 1, by omega, rfl, by go_num, ?_, ?_, HB2.out.setCell (by simp; omega) _, by simp; omega⟩
          · have := hnew.out
            rw [set_same HX.out] at this
            exact Ty.RowI_mono this (fun i b _ hp _ => upd_mono hp)
          · intro q hq hne
            exact (Below.heap_setCell _ _ _ _ (fun e => hne (by rw [e]; rfl))).trans ((HF2.out q (by omega)).trans (hf.out q hq hne))
      · obtain rfl : k = s.segs.length := by omega

        have hgg : ∀ q, (Value.slice D0 s.segs.length d0).ownBlock = some q → w.heap.size + 2 ≤ q := fun q hq => (Ty.RowI_lt R0.out hq).1
        have hbk := Lib.hid ((hf.out w.heap.size (by omega) (by intro e; have := hgg _ e.symm; omega)).trans hbx.out)
        have hbq := Lib.hid ((hf.out (w.heap.size + 1) (by omega) (by intro e; have := hgg _ e.symm; omega)).trans hbr.out)
        have y0 := cell_of hbk.out 0 rfl
        have y1 := cell_of hbk.out 1 rfl
        have y2 := cell_of hbk.out 2 rfl
        have y3 := cell_of hbk.out 3 rfl
        have p0 := cell_of hbq.out 0 rfl
        have p1 := cell_of hbq.out 1 rfl
        have p2 := cell_of hbq.out 2 rfl
        have p3 := cell_of hbq.out 3 rfl
        have f0 := frozen_of hbq.out 0
        have f1 := frozen_of hbq.out 1
        have f2 := frozen_of hbq.out 2
        have f3 := frozen_of hbq.out 3
        go_wp2
        refine bodyPost_ret (results_cell_row rfl _ _ (w.heap.size + 1) 36 #[.slice D0 s.segs.length d0, .slice D1 s.held.length d1, .slice D2 s.opn.length d2, .int .i64 s.next] (0, 0) _ rfl ?hg Try.underlying36 rfl (by kernel_rfl)) rfl ?_
        case hg => exact Ty.setCell_heap (Ty.setCell3 hbq.out) 3 _
        have fr : ∀ q, q ≠ w.heap.size + 1 → ((((wr.setCell ⟨w.heap.size + 1, 0, none⟩ (.slice D0 s.segs.length d0)).setCell ⟨w.heap.size + 1, 1, none⟩ (.slice D1 s.held.length d1)).setCell ⟨w.heap.size + 1, 2, none⟩ (.slice D2 s.opn.length d2)).setCell ⟨w.heap.size + 1, 3, none⟩ (.int .i64 s.next)).heap[q]? = wr.heap[q]? := fun q hq => (Below.heap_setCell _ _ _ _ hq).trans (setCell3_other (Ne.symm hq))
        have fr2 : ∀ q, n1 ≤ q → q < wc.heap.size → ((((wr.setCell ⟨w.heap.size + 1, 0, none⟩ (.slice D0 s.segs.length d0)).setCell ⟨w.heap.size + 1, 1, none⟩ (.slice D1 s.held.length d1)).setCell ⟨w.heap.size + 1, 2, none⟩ (.slice D2 s.opn.length d2)).setCell ⟨w.heap.size + 1, 3, none⟩ (.int .i64 s.next)).heap[q]? = wc.heap[q]? := fun q h1 h2 => (fr q (by omega)).trans (hf.out q h2 (fun e => by have := g0b q e.symm; omega))
        refine ⟨_, _, _, n1, n2, wc.heap.size, rfl, ⟨?_, g0b, ?_, g1b, ?_, fun k hk => (Ty.RowI_lt r2.2 hk).2, m1, m2, by omega, by simp; omega⟩, (((hb.out.setCell (p := ⟨w.heap.size + 1, 0, none⟩) (by simp) _).setCell (p := ⟨w.heap.size + 1, 1, none⟩) (by simp) _).setCell (p := ⟨w.heap.size + 1, 2, none⟩) (by simp) _).setCell (p := ⟨w.heap.size + 1, 3, none⟩) (by simp) _⟩
        · refine Ty.RowI_mono (Ty.RowI_frame hr.out (fun q hq => fr q (by have := hgg q hq; omega)) (fun i q hi hq hq2 _ => fr q ?_)) (fun i b hi h _ => ?_)
          · rw [if_pos hi] at hq; omega
          · rw [if_pos hi] at h; exact h
        · exact Ty.RowI_flat (fun _ _ _ _ _ _ h => h) (Ty.RowI_frame (Ty.RowI_flat (QI := fun _ _ => False) (fun _ _ _ _ _ _ h => h) r1) (fun q hq => fr2 q (Ty.RowI_lt r1 hq).1 (Ty.RowI_lt r1 hq).2) (fun i q _ h => h.elim))
        · exact Ty.Row_frame r2 (fun q h1 h2 => fr2 q (by omega) h2)
end Go.Proofs.Ytfoeddmbhmfjcaa
