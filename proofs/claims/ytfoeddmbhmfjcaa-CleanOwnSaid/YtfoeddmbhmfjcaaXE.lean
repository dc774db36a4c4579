/- Merged texts: Q0, K0, Q1, Q2, Q3. -/
import Derived.Test.YtfoeddmbhmfjcaaXD
import Derived.Test.YtfoeddmbhmfjcaaXA
import Derived.Test.YtfoeddmbhmfjcaaProg
set_option linter.unusedSimpArgs false
set_option linter.unusedVariables false
/- The log's data as abstract values. -/
namespace Go.Proofs.Ytfoeddmbhmfjcaa
open Go.RowKit

theorem lt_at {α : Type} {l : List α} {k : Nat} (h : k < l.length) : ∃ x, l[k]? = some x ∧ ((k : Int) < (l.length : Int)) ∧ ((0 : Int) ≤ (k : Int)) := ⟨_, List.getElem?_eq_getElem h, by omega, by omega⟩
theorem flat_len {α : Type} {e : α → List AV} {k : Nat} (he : ∀ x, (e x).length = k) : ∀ l : List α, (l.flatMap e).length = l.length * k
  | [] => by simp
  | x :: l => by rw [List.flatMap_cons, List.length_append, he, flat_len he l, List.length_cons, Nat.add_mul]; omega
theorem flat_get {α : Type} {e : α → List AV} {k : Nat} (he : ∀ x, (e x).length = k) : ∀ {l : List α} {i : Nat} {x : α}, l[i]? = some x → ∀ j, j < k → (l.flatMap e)[i * k + j]? = (e x)[j]?
  | [], i, x, h, j, hj => by simp at h
  | y :: l, 0, x, h, j, hj => by
    simp at h
    subst h
    rw [List.flatMap_cons, Nat.zero_mul, Nat.zero_add, List.getElem?_append_left (by rw [he]; exact hj)]
  | y :: l, i + 1, x, h, j, hj => by
    rw [List.flatMap_cons, List.getElem?_append_right (by rw [he, Nat.add_mul]; omega), he, show (i + 1) * k + j - k = i * k + j from by rw [Nat.add_mul]; omega]
    exact flat_get he (by simpa using h) j hj
theorem flat_set {α : Type} {e : α → List AV} {k : Nat} (he : ∀ x, (e x).length = k) : ∀ {l : List α} {i j : Nat} {x' : α} {a : AV}, i < l.length → j < k → (∀ x, l[i]? = some x → e x' = (e x).set j a) → (l.flatMap e).set (i * k + j) a = (l.set i x').flatMap e
  | [], i, j, x', a, h, hj, _ => by simp at h
  | y :: l, 0, j, x', a, h, hj, hx => by
    rw [List.flatMap_cons, Nat.zero_mul, Nat.zero_add, List.set_append_left _ _ (by rw [he]; exact hj), List.set_cons_zero, List.flatMap_cons, hx y rfl]
  | y :: l, i + 1, j, x', a, h, hj, hx => by
    rw [List.flatMap_cons, List.set_append_right _ _ (by rw [he, Nat.add_mul]; omega), he, show (i + 1) * k + j - k = i * k + j from by rw [Nat.add_mul]; omega, List.set_cons_succ, List.flatMap_cons]
    rw [flat_set he (by simpa using h) hj (fun x h => hx x (by simpa using h))]
theorem flat_app {α : Type} {e : α → List AV} (l : List α) (x : α) : l.flatMap e ++ e x = (l ++ [x]).flatMap e := by simp
theorem AlL_flat {α : Type} {e : α → List AV} {p : Nat → Prop} (he : ∀ x, AlL p (e x)) (l : List α) : AlL p (l.flatMap e) := by
  rw [AlL_iff]
  intro a ha
  rw [List.mem_flatMap] at ha
  obtain ⟨x, _, hx⟩ := ha
  exact AlL_iff.1 (he x) a hx
theorem AlL_map {α : Type} {e : α → AV} {p : Nat → Prop} (he : ∀ x, Al p (e x)) (l : List α) : AlL p (l.map e) := by
  rw [AlL_iff]
  intro a ha
  rw [List.mem_map] at ha
  obtain ⟨x, _, rfl⟩ := ha
  exact he x

/-- an error's number: none, or ErrState -/
def errN (b : Bool) : Int := if b then 0 else 9
theorem errN_t {b : Bool} (h : b = true) : errN b = 0 := by rw [h]; rfl
theorem errN_f {b : Bool} (h : b = false) : errN b = 9 := by rw [h]; rfl
def eB (l : List Int) : List AV := l.map fun x => .v (.int .u8 x)
def eBools (l : List Bool) : List AV := l.map fun x => .v (.bool x)
def eBlk (fr : Bool) (b : Blk) : List AV := [.v (.int .i64 b.own), .v (.int .i64 b.idx), .fs fr (eB b.data) b.data.length]
def eBlks (fr : Bool) (l : List Blk) : List AV := l.flatMap (eBlk fr)
def eSg (fr : Bool) (s : Sg) : List AV := [.v (.int .i64 s.seq), .fs fr (eBlks fr s.blocks) s.blocks.length]
def eSegs (fr : Bool) (l : List Sg) : List AV := l.flatMap (eSg fr)
/-- slices, as values -/
def fB (fr : Bool) (l : List Int) : AV := .fs fr (eB l) l.length
def fBools (fr : Bool) (l : List Bool) : AV := .fs fr (eBools l) l.length
def fBlks (fr : Bool) (l : List Blk) : AV := .fs fr (eBlks fr l) l.length
def fSegs (fr : Bool) (l : List Sg) : AV := .fs fr (eSegs fr l) l.length
def aBlk (fr : Bool) (b : Blk) : AV := .agg [.v (.int .i64 b.own), .v (.int .i64 b.idx), fB fr b.data]
def aSg (fr : Bool) (s : Sg) : AV := .agg [.v (.int .i64 s.seq), fBlks fr s.blocks]
def aSt (fr : Bool) (s : St) : AV := .agg [fSegs fr s.segs, fBools fr s.held, fBlks fr s.opn, .v (.int .i64 s.next)]
section
variable {p : Nat → Prop} {fr : Bool}
theorem al_B (l : List Int) : AlL p (eB l) := AlL_map (e := fun x => AV.v (.int .u8 x)) (fun _ => trivial) l
theorem al_Bools (l : List Bool) : AlL p (eBools l) := AlL_map (e := fun x => AV.v (.bool x)) (fun _ => trivial) l
theorem al_Blk (b : Blk) : AlL p (eBlk fr b) := ⟨trivial, trivial, al_B _, trivial⟩
theorem al_Blks (l : List Blk) : AlL p (eBlks fr l) := AlL_flat al_Blk l
theorem al_Sg (s : Sg) : AlL p (eSg fr s) := ⟨trivial, al_Blks _, trivial⟩
theorem al_Segs (l : List Sg) : AlL p (eSegs fr l) := AlL_flat al_Sg l
theorem al_fB (l : List Int) : Al p (fB fr l) := al_B l
theorem al_fBools (l : List Bool) : Al p (fBools fr l) := al_Bools l
theorem al_fBlks (l : List Blk) : Al p (fBlks fr l) := al_Blks l
theorem al_fSegs (l : List Sg) : Al p (fSegs fr l) := al_Segs l
theorem al_aBlk (b : Blk) : Al p (aBlk fr b) := ⟨trivial, trivial, al_B _, trivial⟩
theorem al_aSg (s : Sg) : Al p (aSg fr s) := ⟨trivial, al_Blks _, trivial⟩
theorem al_aSt (s : St) : Al p (aSt fr s) := ⟨al_Segs _, al_Bools _, al_Blks _, trivial, trivial⟩
theorem ren_B {ρ : Nat → Nat} (l : List Int) : renL ρ (eB l) = eB l := renL_id (p := fun _ => False) (fun _ h => h.elim) (al_B l)
theorem ren_Bools {ρ : Nat → Nat} (l : List Bool) : renL ρ (eBools l) = eBools l := renL_id (p := fun _ => False) (fun _ h => h.elim) (al_Bools l)
theorem ren_Blks {ρ : Nat → Nat} (l : List Blk) : renL ρ (eBlks fr l) = eBlks fr l := renL_id (p := fun _ => False) (fun _ h => h.elim) (al_Blks l)
theorem ren_Segs {ρ : Nat → Nat} (l : List Sg) : renL ρ (eSegs fr l) = eSegs fr l := renL_id (p := fun _ => False) (fun _ h => h.elim) (al_Segs l)
theorem ren_fB {ρ : Nat → Nat} (l : List Int) : ren ρ (fB fr l) = fB fr l := ren_id (p := fun _ => False) (fun _ h => h.elim) (al_fB l)
theorem ren_fBools {ρ : Nat → Nat} (l : List Bool) : ren ρ (fBools fr l) = fBools fr l := ren_id (p := fun _ => False) (fun _ h => h.elim) (al_fBools l)
theorem ren_fBlks {ρ : Nat → Nat} (l : List Blk) : ren ρ (fBlks fr l) = fBlks fr l := ren_id (p := fun _ => False) (fun _ h => h.elim) (al_fBlks l)
theorem ren_fSegs {ρ : Nat → Nat} (l : List Sg) : ren ρ (fSegs fr l) = fSegs fr l := ren_id (p := fun _ => False) (fun _ h => h.elim) (al_fSegs l)
theorem len_B (l : List Int) : (eB l).length = l.length := by simp [eB]
theorem len_Bools (l : List Bool) : (eBools l).length = l.length := by simp [eBools]
theorem len_Blks (l : List Blk) : (eBlks fr l).length = l.length * 3 := flat_len (e := eBlk fr) (k := 3) (fun _ => rfl) l
theorem len_Segs (l : List Sg) : (eSegs fr l).length = l.length * 2 := flat_len (e := eSg fr) (k := 2) (fun _ => rfl) l
theorem tk_B (l : List Int) : List.take l.length (eB l) = eB l := List.take_of_length_le (by rw [len_B]; exact Nat.le_refl _)
theorem tk_Bools (l : List Bool) : List.take l.length (eBools l) = eBools l := List.take_of_length_le (by rw [len_Bools]; exact Nat.le_refl _)
theorem tk_Blks (l : List Blk) : List.take (l.length * 3) (eBlks fr l) = eBlks fr l := List.take_of_length_le (by rw [len_Blks]; exact Nat.le_refl _)
theorem tk_Segs (l : List Sg) : List.take (l.length * 2) (eSegs fr l) = eSegs fr l := List.take_of_length_le (by rw [len_Segs]; exact Nat.le_refl _)
theorem snoc_Blks {l : List Blk} {k : Nat} {b : Blk} (h : l[k]? = some b) : eBlks fr (l.take (k + 1)) = eBlks fr (l.take k) ++ eBlk fr b := by
  obtain ⟨hk, rfl⟩ := List.getElem?_eq_some_iff.1 h
  unfold eBlks; rw [List.take_succ_eq_append_getElem hk]; simp only [List.flatMap_append, List.flatMap_cons, List.flatMap_nil, List.append_nil]
theorem snoc_Segs {l : List Sg} {k : Nat} {b : Sg} (h : l[k]? = some b) : eSegs fr (l.take (k + 1)) = eSegs fr (l.take k) ++ eSg fr b := by
  obtain ⟨hk, rfl⟩ := List.getElem?_eq_some_iff.1 h
  unfold eSegs; rw [List.take_succ_eq_append_getElem hk]; simp only [List.flatMap_append, List.flatMap_cons, List.flatMap_nil, List.append_nil]
theorem app_Blks (a b : List Blk) : eBlks fr (a ++ b) = eBlks fr a ++ eBlks fr b := by simp [eBlks]
theorem one_Blks (b : Blk) : eBlks fr [b] = [.v (.int .i64 b.own), .v (.int .i64 b.idx), .fs fr (eB b.data) b.data.length] := rfl
theorem set_Segs {l : List Sg} {k : Nat} (hk : k < l.length) (x : Sg) : ((eSegs fr l).set (k * 2) (.v (.int .i64 x.seq))).set (k * 2 + 1) (fBlks fr x.blocks) = eSegs fr (l.set k x) := by
  have h1 := flat_set (e := eSg fr) (k := 2) (fun _ => rfl) (l := l) (i := k) (j := 0) (x' := ⟨x.seq, (l[k]'hk).blocks⟩) (a := .v (.int .i64 x.seq)) hk (by omega) (fun y hy => by rw [List.getElem?_eq_getElem hk] at hy; cases hy; rfl)
  have h2 := flat_set (e := eSg fr) (k := 2) (fun _ => rfl) (l := l.set k ⟨x.seq, (l[k]'hk).blocks⟩) (i := k) (j := 1) (x' := x) (a := fBlks fr x.blocks) (by simpa using hk) (by omega) (fun y hy => by simp [hk] at hy; subst hy; rfl)
  rw [Nat.add_zero] at h1
  unfold eSegs
  rw [h1, h2, List.set_set]
theorem get_B {l : List Int} {i : Nat} {x : Int} (h : l[i]? = some x) : (eB l)[i]? = some (.v (.int .u8 x)) := by simp [eB, h]
theorem get_Bools {l : List Bool} {i : Nat} {x : Bool} (h : l[i]? = some x) : (eBools l)[i]? = some (.v (.bool x)) := by simp [eBools, h]
theorem get_Blks {l : List Blk} {i : Nat} {b : Blk} (h : l[i]? = some b) : (eBlks fr l)[i * 3]? = some (.v (.int .i64 b.own)) ∧ (eBlks fr l)[i * 3 + 1]? = some (.v (.int .i64 b.idx)) ∧ (eBlks fr l)[i * 3 + 2]? = some (fB fr b.data) :=
  ⟨flat_get (e := eBlk fr) (k := 3) (fun _ => rfl) h 0 (by omega), flat_get (e := eBlk fr) (k := 3) (fun _ => rfl) h 1 (by omega), flat_get (e := eBlk fr) (k := 3) (fun _ => rfl) h 2 (by omega)⟩
theorem get_Blks3 {l : List Blk} {i : Nat} {b : Blk} (h : l[i]? = some b) : (eBlks fr l)[i * 3]? = some (.v (.int .i64 b.own)) ∧ (eBlks fr l)[i * 3 + 1]? = some (.v (.int .i64 b.idx)) ∧ (eBlks fr l)[i * 3 + 1 + 1]? = some (fB fr b.data) ∧ (eBlks fr l)[i * 3 + 2]? = some (fB fr b.data) :=
  ⟨(get_Blks h).1, (get_Blks h).2.1, (get_Blks h).2.2, (get_Blks h).2.2⟩
theorem get_Segs {l : List Sg} {i : Nat} {s : Sg} (h : l[i]? = some s) : (eSegs fr l)[i * 2]? = some (.v (.int .i64 s.seq)) ∧ (eSegs fr l)[i * 2 + 1]? = some (fBlks fr s.blocks) :=
  ⟨flat_get (e := eSg fr) (k := 2) (fun _ => rfl) h 0 (by omega), flat_get (e := eSg fr) (k := 2) (fun _ => rfl) h 1 (by omega)⟩
end
end Go.Proofs.Ytfoeddmbhmfjcaa
/- Functions of the program, compiled. -/
namespace Go.Proofs.Ytfoeddmbhmfjcaa
set_option maxRecDepth 100000
def ac_54 : AC :=
(.seq (.reg false [⟨some 1, .box 69 (.tmp 0), none, [0], []⟩,
    ⟨some 2, .mv (.const (.bool false)), none, [], []⟩] [1])
(.seq (.reg false [⟨some 3, .foff 0 (.tmp 1), none, [1], []⟩,
    ⟨some 4, .load false 1 (.tmp 3), none, [3], []⟩,
    ⟨some 5, .bin .eql (.tmp 4) (.const (.int .i64 (0))), none, [4], []⟩,
    ⟨some 6, .mv (.tmp 5), none, [5], []⟩,
    ⟨some 7, .foff 1 (.tmp 1), some (6, true), [1, 6], []⟩,
    ⟨some 8, .load false 1 (.tmp 7), some (6, true), [7, 6], []⟩,
    ⟨some 9, .len false (.tmp 8), some (6, true), [8, 6], []⟩,
    ⟨some 10, .bin .eql (.tmp 9) (.const (.int .i64 (0))), some (6, true), [9, 6], []⟩,
    ⟨some 11, .pick (.tmp 6) (.tmp 10) (.const (.bool false)), none, [6, 10], []⟩,
    ⟨some 2, .mv (.tmp 11), none, [11], []⟩] [2])
.ret))
theorem ok_54 : FnOk Try.prog 54 12 ac_54 [.tmp 2] := ⟨Try.f54, Try.func54, by kernel_rfl, by kernel_rfl, by kernel_rfl, by kernel_rfl, by kernel_rfl⟩
def ac_65 : AC :=
(.seq (.reg false [⟨some 1, .box 55 (.tmp 0), none, [0], []⟩,
    ⟨some 2, .mv (.const (.bool false)), none, [], []⟩] [1])
(.seq (.reg false [⟨some 3, .foff 0 (.tmp 1), none, [1], []⟩,
    ⟨some 4, .load false 1 (.tmp 3), none, [3], []⟩,
    ⟨some 5, .bin .geq (.tmp 4) (.const (.int .i64 (1))), none, [4], []⟩,
    ⟨some 6, .mv (.tmp 5), none, [5], []⟩,
    ⟨some 7, .foff 0 (.tmp 1), some (6, true), [1, 6], []⟩,
    ⟨some 8, .load false 1 (.tmp 7), some (6, true), [7, 6], []⟩,
    ⟨some 9, .bin .leq (.tmp 8) (.const (.int .i64 (2147483647))), some (6, true), [8, 6], []⟩,
    ⟨some 10, .pick (.tmp 6) (.tmp 9) (.const (.bool false)), none, [6, 9], []⟩,
    ⟨some 11, .mv (.tmp 10), none, [10], []⟩,
    ⟨some 12, .foff 1 (.tmp 1), some (11, true), [1, 11], []⟩,
    ⟨some 13, .load false 1 (.tmp 12), some (11, true), [12, 11], []⟩,
    ⟨some 14, .bin .geq (.tmp 13) (.const (.int .i64 (0))), some (11, true), [13, 11], []⟩,
    ⟨some 15, .pick (.tmp 11) (.tmp 14) (.const (.bool false)), none, [11, 14], []⟩,
    ⟨some 16, .mv (.tmp 15), none, [15], []⟩,
    ⟨some 17, .foff 1 (.tmp 1), some (16, true), [1, 16], []⟩,
    ⟨some 18, .load false 1 (.tmp 17), some (16, true), [17, 16], []⟩,
    ⟨some 19, .bin .leq (.tmp 18) (.const (.int .i64 (255))), some (16, true), [18, 16], []⟩,
    ⟨some 20, .pick (.tmp 16) (.tmp 19) (.const (.bool false)), none, [16, 19], []⟩,
    ⟨some 21, .mv (.tmp 20), none, [20], []⟩,
    ⟨some 22, .foff 2 (.tmp 1), some (21, true), [1, 21], []⟩,
    ⟨some 23, .load false 1 (.tmp 22), some (21, true), [22, 21], []⟩,
    ⟨some 24, .len false (.tmp 23), some (21, true), [23, 21], []⟩,
    ⟨some 25, .bin .leq (.tmp 24) (.const (.int .i64 (32))), some (21, true), [24, 21], []⟩,
    ⟨some 26, .pick (.tmp 21) (.tmp 25) (.const (.bool false)), none, [21, 25], []⟩,
    ⟨some 2, .mv (.tmp 26), none, [26], []⟩] [2])
.ret))
theorem ok_65 : FnOk Try.prog 65 27 ac_65 [.tmp 2] := ⟨Try.f65, Try.func65, by kernel_rfl, by kernel_rfl, by kernel_rfl, by kernel_rfl, by kernel_rfl⟩
def ac_67 : AC :=
(.seq (.reg false [⟨some 1, .box 69 (.tmp 0), none, [0], []⟩,
    ⟨some 2, .mv (.const (.int .i64 (0))), none, [], []⟩] [1])
(.seq (.seq (.reg false [⟨some 4, .foff 0 (.tmp 1), none, [1], []⟩,
    ⟨some 5, .load false 1 (.tmp 4), none, [4], []⟩,
    ⟨some 6, .bin .lss (.tmp 5) (.const (.int .i64 (1))), none, [5], []⟩,
    ⟨some 7, .mv (.tmp 6), none, [6], []⟩,
    ⟨some 8, .foff 0 (.tmp 1), some (7, false), [1, 7], []⟩,
    ⟨some 9, .load false 1 (.tmp 8), some (7, false), [8, 7], []⟩,
    ⟨some 10, .bin .gtr (.tmp 9) (.const (.int .i64 (1099511627776))), some (7, false), [9, 7], []⟩,
    ⟨some 11, .pick (.tmp 7) (.const (.bool true)) (.tmp 10), none, [7, 10], []⟩,
    ⟨some 12, .mv (.tmp 11), none, [11], []⟩,
    ⟨some 13, .foff 1 (.tmp 1), some (12, false), [1, 12], []⟩,
    ⟨some 14, .load false 1 (.tmp 13), some (12, false), [13, 12], []⟩,
    ⟨some 15, .len false (.tmp 14), some (12, false), [14, 12], []⟩,
    ⟨some 16, .bin .lss (.tmp 15) (.const (.int .i64 (1))), some (12, false), [15, 12], []⟩,
    ⟨some 17, .pick (.tmp 12) (.const (.bool true)) (.tmp 16), none, [12, 16], []⟩,
    ⟨some 18, .mv (.tmp 17), none, [17], []⟩,
    ⟨some 19, .foff 1 (.tmp 1), some (18, false), [1, 18], []⟩,
    ⟨some 20, .load false 1 (.tmp 19), some (18, false), [19, 18], []⟩,
    ⟨some 21, .len false (.tmp 20), some (18, false), [20, 18], []⟩,
    ⟨some 22, .bin .gtr (.tmp 21) (.const (.int .i64 (8))), some (18, false), [21, 18], []⟩,
    ⟨some 23, .pick (.tmp 18) (.const (.bool true)) (.tmp 22), none, [18, 22], []⟩] [1, 23])
(.cond (.tmp 23)
(.seq (.reg false [⟨some 2, .mv (.const (.int .i64 (9))), none, [], []⟩] [2])
.ret)
.skip))
(.seq (.seq (.reg false [⟨some 3, .mv (.const (.int .i64 (0))), none, [], []⟩] [1, 3])
(.block 0 (.loop (.seq (.seq (.reg false [⟨some 24, .mv (.tmp 3), none, [3], []⟩,
    ⟨some 25, .foff 1 (.tmp 1), none, [1], []⟩,
    ⟨some 26, .load false 1 (.tmp 25), none, [25], []⟩,
    ⟨some 27, .len false (.tmp 26), none, [26], []⟩,
    ⟨some 28, .bin .lss (.tmp 24) (.tmp 27), none, [24, 27], []⟩] [1, 3, 28])
(.cond (.tmp 28)
.skip
(.exit 0)))
(.seq (.block 1 (.seq (.reg false [⟨some 31, .foff 1 (.tmp 1), none, [1], []⟩,
    ⟨some 32, .load false 1 (.tmp 31), none, [31], []⟩,
    ⟨some 33, .mv (.tmp 3), none, [3], []⟩,
    ⟨some 34, .idx 3 (.tmp 32) (.tmp 33), none, [32, 33], []⟩,
    ⟨some 35, .load true 3 (.tmp 34), none, [34], []⟩,
    ⟨some 36, .call 65 [(.tmp 35)], none, [35], []⟩,
    ⟨some 37, .un .not (.tmp 36), none, [36], []⟩] [1, 3, 37])
(.cond (.tmp 37)
(.seq (.reg false [⟨some 2, .mv (.const (.int .i64 (9))), none, [], []⟩] [2])
.ret)
.skip)))
(.reg false [⟨some 29, .mv (.tmp 3), none, [3], []⟩,
    ⟨some 30, .bin .add (.tmp 29) (.const (.int .i64 (1))), none, [29], []⟩,
    ⟨some 3, .mv (.tmp 30), none, [30], []⟩] [1, 3]))))))
(.seq (.reg false [⟨some 2, .mv (.const (.int .i64 (0))), none, [], []⟩] [2])
.ret))))
theorem ok_67 : FnOk Try.prog 67 38 ac_67 [.tmp 2] := ⟨Try.f67, Try.func67, by kernel_rfl, by kernel_rfl, by kernel_rfl, by kernel_rfl, by kernel_rfl⟩
def ac_34 : AC :=
(.seq (.reg false [⟨some 1, .box 32 (.tmp 0), none, [0], []⟩,
    ⟨some 2, .mv (.const (.int .i64 (0))), none, [], []⟩] [1])
(.seq (.reg false [⟨some 8, .foff 0 (.tmp 1), none, [1], []⟩,
    ⟨some 9, .load false 1 (.tmp 8), none, [8], []⟩,
    ⟨some 10, .len false (.tmp 9), none, [9], []⟩,
    ⟨some 3, .mv (.tmp 10), none, [10], []⟩] [1, 3])
(.seq (.seq (.reg false [⟨some 11, .mv (.tmp 3), none, [3], []⟩,
    ⟨some 12, .bin .lss (.tmp 11) (.const (.int .i64 (1))), none, [11], []⟩,
    ⟨some 13, .mv (.tmp 12), none, [12], []⟩,
    ⟨some 14, .mv (.tmp 3), some (13, false), [3, 13], []⟩,
    ⟨some 15, .bin .gtr (.tmp 14) (.const (.int .i64 (64))), some (13, false), [14, 13], []⟩,
    ⟨some 16, .pick (.tmp 13) (.const (.bool true)) (.tmp 15), none, [13, 15], []⟩,
    ⟨some 17, .mv (.tmp 16), none, [16], []⟩,
    ⟨some 18, .foff 1 (.tmp 1), some (17, false), [1, 17], []⟩,
    ⟨some 19, .load false 1 (.tmp 18), some (17, false), [18, 17], []⟩,
    ⟨some 20, .len false (.tmp 19), some (17, false), [19, 17], []⟩,
    ⟨some 21, .mv (.tmp 3), some (17, false), [3, 17], []⟩,
    ⟨some 22, .bin .neq (.tmp 20) (.tmp 21), some (17, false), [20, 21, 17], []⟩,
    ⟨some 23, .pick (.tmp 17) (.const (.bool true)) (.tmp 22), none, [17, 22], []⟩,
    ⟨some 24, .mv (.tmp 23), none, [23], []⟩,
    ⟨some 25, .foff 3 (.tmp 1), some (24, false), [1, 24], []⟩,
    ⟨some 26, .load false 1 (.tmp 25), some (24, false), [25, 24], []⟩,
    ⟨some 27, .bin .lss (.tmp 26) (.const (.int .i64 (1))), some (24, false), [26, 24], []⟩,
    ⟨some 28, .pick (.tmp 24) (.const (.bool true)) (.tmp 27), none, [24, 27], []⟩,
    ⟨some 29, .mv (.tmp 28), none, [28], []⟩,
    ⟨some 30, .foff 3 (.tmp 1), some (29, false), [1, 29], []⟩,
    ⟨some 31, .load false 1 (.tmp 30), some (29, false), [30, 29], []⟩,
    ⟨some 32, .bin .gtr (.tmp 31) (.const (.int .i64 (1099511627776))), some (29, false), [31, 29], []⟩,
    ⟨some 33, .pick (.tmp 29) (.const (.bool true)) (.tmp 32), none, [29, 32], []⟩,
    ⟨some 34, .mv (.tmp 33), none, [33], []⟩,
    ⟨some 35, .foff 2 (.tmp 1), some (34, false), [1, 34], []⟩,
    ⟨some 36, .load false 1 (.tmp 35), some (34, false), [35, 34], []⟩,
    ⟨some 37, .len false (.tmp 36), some (34, false), [36, 34], []⟩,
    ⟨some 38, .bin .gtr (.tmp 37) (.const (.int .i64 (8))), some (34, false), [37, 34], []⟩,
    ⟨some 39, .pick (.tmp 34) (.const (.bool true)) (.tmp 38), none, [34, 38], []⟩] [1, 3, 39])
(.cond (.tmp 39)
(.seq (.reg false [⟨some 2, .mv (.const (.int .i64 (9))), none, [], []⟩] [2])
.ret)
.skip))
(.seq (.seq (.reg false [⟨some 4, .mv (.const (.int .i64 (0))), none, [], []⟩] [1, 3, 4])
(.block 0 (.loop (.seq (.seq (.reg false [⟨some 40, .mv (.tmp 4), none, [4], []⟩,
    ⟨some 41, .mv (.tmp 3), none, [3], []⟩,
    ⟨some 42, .bin .lss (.tmp 40) (.tmp 41), none, [40, 41], []⟩] [1, 3, 4, 42])
(.cond (.tmp 42)
.skip
(.exit 0)))
(.seq (.block 1 (.seq (.reg false [⟨some 45, .foff 0 (.tmp 1), none, [1], []⟩,
    ⟨some 46, .load false 1 (.tmp 45), none, [45], []⟩,
    ⟨some 47, .mv (.tmp 4), none, [4], []⟩,
    ⟨some 48, .idx 2 (.tmp 46) (.tmp 47), none, [46, 47], []⟩,
    ⟨some 49, .load true 2 (.tmp 48), none, [48], []⟩,
    ⟨some 5, .new 69 [(.int .i64 (0)), (.slice none 0 0)], none, [], []⟩,
    ⟨none, .store 2 (.tmp 5) (.tmp 49), none, [5, 49], []⟩] [1, 3, 4, 5])
(.seq (.seq (.reg false [⟨some 50, .load true 2 (.tmp 5), none, [5], []⟩,
    ⟨some 51, .call 54 [(.tmp 50)], none, [50], []⟩] [1, 3, 4, 5, 51])
(.cond (.tmp 51)
(.exit 1)
.skip))
(.seq (.seq (.reg false [⟨some 52, .load true 2 (.tmp 5), none, [5], []⟩,
    ⟨some 53, .call 67 [(.tmp 52)], none, [52], []⟩,
    ⟨some 54, .bin .neq (.tmp 53) (.const (.int .i64 (0))), none, [53], []⟩,
    ⟨some 55, .mv (.tmp 54), none, [54], []⟩,
    ⟨some 56, .foff 0 (.tmp 5), some (55, false), [5, 55], []⟩,
    ⟨some 57, .load false 1 (.tmp 56), some (55, false), [56, 55], []⟩,
    ⟨some 58, .foff 3 (.tmp 1), some (55, false), [1, 55], []⟩,
    ⟨some 59, .load false 1 (.tmp 58), some (55, false), [58, 55], []⟩,
    ⟨some 60, .bin .geq (.tmp 57) (.tmp 59), some (55, false), [57, 59, 55], []⟩,
    ⟨some 61, .pick (.tmp 55) (.const (.bool true)) (.tmp 60), none, [55, 60], []⟩] [1, 3, 4, 5, 61])
(.cond (.tmp 61)
(.seq (.reg false [⟨some 2, .mv (.const (.int .i64 (9))), none, [], []⟩] [2])
.ret)
.skip))
(.seq (.reg false [⟨some 6, .mv (.const (.int .i64 (0))), none, [], []⟩] [1, 3, 4, 5, 6])
(.block 2 (.loop (.seq (.seq (.reg false [⟨some 62, .mv (.tmp 6), none, [6], []⟩,
    ⟨some 63, .mv (.tmp 4), none, [4], []⟩,
    ⟨some 64, .bin .lss (.tmp 62) (.tmp 63), none, [62, 63], []⟩] [1, 3, 4, 5, 6, 64])
(.cond (.tmp 64)
.skip
(.exit 2)))
(.seq (.block 3 (.seq (.reg true [⟨some 67, .foff 0 (.tmp 1), none, [1], []⟩,
    ⟨some 68, .load false 1 (.tmp 67), none, [67], [0]⟩,
    ⟨some 69, .mv (.tmp 6), none, [6], []⟩,
    ⟨some 70, .idx 2 (.tmp 68) (.tmp 69), none, [68, 69], [1, 2, 0]⟩,
    ⟨some 71, .foff 0 (.tmp 70), none, [70], [3, 1, 2, 0]⟩,
    ⟨some 72, .load false 1 (.tmp 71), none, [71], [4, 3, 1, 2, 0]⟩,
    ⟨some 73, .foff 0 (.tmp 5), none, [5], []⟩,
    ⟨some 74, .load false 1 (.tmp 73), none, [73], [6]⟩,
    ⟨some 75, .bin .eql (.tmp 72) (.tmp 74), none, [72, 74], [5, 7, 4, 3, 1, 2, 0, 6]⟩] [1, 3, 4, 5, 6, 75])
(.cond (.tmp 75)
(.seq (.reg false [⟨some 2, .mv (.const (.int .i64 (9))), none, [], []⟩] [2])
.ret)
.skip)))
(.reg false [⟨some 65, .mv (.tmp 6), none, [6], []⟩,
    ⟨some 66, .bin .add (.tmp 65) (.const (.int .i64 (1))), none, [65], []⟩,
    ⟨some 6, .mv (.tmp 66), none, [66], []⟩] [1, 3, 4, 5, 6]))))))))))
(.reg false [⟨some 43, .mv (.tmp 4), none, [4], []⟩,
    ⟨some 44, .bin .add (.tmp 43) (.const (.int .i64 (1))), none, [43], []⟩,
    ⟨some 4, .mv (.tmp 44), none, [44], []⟩] [1, 3, 4]))))))
(.seq (.seq (.reg false [⟨some 7, .mv (.const (.int .i64 (0))), none, [], []⟩] [1, 7])
(.block 4 (.loop (.seq (.seq (.reg false [⟨some 76, .mv (.tmp 7), none, [7], []⟩,
    ⟨some 77, .foff 2 (.tmp 1), none, [1], []⟩,
    ⟨some 78, .load false 1 (.tmp 77), none, [77], []⟩,
    ⟨some 79, .len false (.tmp 78), none, [78], []⟩,
    ⟨some 80, .bin .lss (.tmp 76) (.tmp 79), none, [76, 79], []⟩] [1, 7, 80])
(.cond (.tmp 80)
.skip
(.exit 4)))
(.seq (.block 5 (.seq (.reg false [⟨some 83, .foff 2 (.tmp 1), none, [1], []⟩,
    ⟨some 84, .load false 1 (.tmp 83), none, [83], []⟩,
    ⟨some 85, .mv (.tmp 7), none, [7], []⟩,
    ⟨some 86, .idx 3 (.tmp 84) (.tmp 85), none, [84, 85], []⟩,
    ⟨some 87, .load true 3 (.tmp 86), none, [86], []⟩,
    ⟨some 88, .call 65 [(.tmp 87)], none, [87], []⟩,
    ⟨some 89, .un .not (.tmp 88), none, [88], []⟩] [1, 7, 89])
(.cond (.tmp 89)
(.seq (.reg false [⟨some 2, .mv (.const (.int .i64 (9))), none, [], []⟩] [2])
.ret)
.skip)))
(.reg false [⟨some 81, .mv (.tmp 7), none, [7], []⟩,
    ⟨some 82, .bin .add (.tmp 81) (.const (.int .i64 (1))), none, [81], []⟩,
    ⟨some 7, .mv (.tmp 82), none, [82], []⟩] [1, 7]))))))
(.seq (.reg false [⟨some 2, .mv (.const (.int .i64 (0))), none, [], []⟩] [2])
.ret))))))
theorem ok_34 : FnOk Try.prog 34 90 ac_34 [.tmp 2] := ⟨Try.f34, Try.func34, by kernel_rfl, by kernel_rfl, by kernel_rfl, by kernel_rfl, by kernel_rfl⟩
def ac_58 : AC :=
(.seq (.reg false [⟨some 2, .box 32 (.tmp 0), none, [0], []⟩,
    ⟨some 4, .mv (.const (.int .i64 (0))), none, [], []⟩] [1, 2])
(.seq (.block 0 (.seq (.reg false [⟨some 6, .load true 4 (.tmp 2), none, [2], []⟩,
    ⟨some 7, .call 34 [(.tmp 6)], none, [6], []⟩,
    ⟨some 8, .bin .neq (.tmp 7) (.const (.int .i64 (0))), none, [7], []⟩,
    ⟨some 5, .mv (.tmp 8), none, [8], []⟩] [1, 2, 5])
(.cond (.tmp 5)
(.seq (.reg false [⟨some 4, .mv (.const (.int .i64 (9))), none, [], []⟩] [4])
.ret)
(.seq (.reg false [⟨some 10, .mv (.tmp 1), none, [1], []⟩,
    ⟨some 11, .bin .lss (.tmp 10) (.const (.int .i64 (0))), none, [10], []⟩,
    ⟨some 12, .mv (.tmp 11), none, [11], []⟩,
    ⟨some 13, .mv (.tmp 1), some (12, false), [1, 12], []⟩,
    ⟨some 14, .foff 0 (.tmp 2), some (12, false), [2, 12], []⟩,
    ⟨some 15, .load false 1 (.tmp 14), some (12, false), [14, 12], []⟩,
    ⟨some 16, .len false (.tmp 15), some (12, false), [15, 12], []⟩,
    ⟨some 17, .bin .geq (.tmp 13) (.tmp 16), some (12, false), [13, 16, 12], []⟩,
    ⟨some 18, .pick (.tmp 12) (.const (.bool true)) (.tmp 17), none, [12, 17], []⟩,
    ⟨some 19, .mv (.tmp 18), none, [18], []⟩,
    ⟨some 20, .foff 0 (.tmp 2), some (19, false), [2, 19], []⟩,
    ⟨some 21, .load false 1 (.tmp 20), some (19, false), [20, 19], []⟩,
    ⟨some 22, .mv (.tmp 1), some (19, false), [1, 19], []⟩,
    ⟨some 23, .idx 2 (.tmp 21) (.tmp 22), some (19, false), [21, 22, 19], []⟩,
    ⟨some 24, .load true 2 (.tmp 23), some (19, false), [23, 19], []⟩,
    ⟨some 25, .call 54 [(.tmp 24)], some (19, false), [24, 19], []⟩,
    ⟨some 26, .pick (.tmp 19) (.const (.bool true)) (.tmp 25), none, [19, 25], []⟩,
    ⟨some 9, .mv (.tmp 26), none, [26], []⟩] [9])
(.cond (.tmp 9)
(.seq (.reg false [⟨some 4, .mv (.const (.int .i64 (71))), none, [], []⟩] [4])
.ret)
.skip)))))
(.seq (.reg false [⟨some 4, .mv (.const (.int .i64 (0))), none, [], []⟩] [4])
.ret)))
theorem ok_58 : FnOk Try.prog 58 27 ac_58 [.tmp 4] := ⟨Try.f58, Try.func58, by kernel_rfl, by kernel_rfl, by kernel_rfl, by kernel_rfl, by kernel_rfl⟩
def ac_59 : AC :=
(.seq (.reg false [⟨some 3, .box 32 (.tmp 0), none, [0], []⟩,
    ⟨some 6, .mv (.const (.int .i64 (0))), none, [], []⟩,
    ⟨some 7, .mv (.const (.int .i64 (0))), none, [], []⟩,
    ⟨some 8, .mv (.const (.slice none 0 0)), none, [], []⟩,
    ⟨some 9, .mv (.const (.int .i64 (0))), none, [], []⟩] [1, 2, 3])
(.seq (.reg false [⟨some 10, .mv (.const (.int .i64 (0))), none, [], []⟩,
    ⟨some 11, .mv (.const (.int .i64 (0))), none, [], []⟩,
    ⟨some 12, .mv (.const (.int .i64 (0))), none, [], []⟩] [1, 2, 3, 10, 11, 12])
(.seq (.reg false [⟨some 13, .mv (.const (.slice none 0 0)), none, [], []⟩] [1, 2, 3, 10, 11, 12, 13])
(.seq (.seq (.reg false [⟨some 14, .mv (.const (.int .i64 (0))), none, [], []⟩] [1, 2, 3, 10, 11, 12, 13, 14])
(.block 0 (.loop (.seq (.seq (.reg false [⟨some 18, .mv (.tmp 14), none, [14], []⟩,
    ⟨some 19, .foff 0 (.tmp 3), none, [3], []⟩,
    ⟨some 20, .load false 1 (.tmp 19), none, [19], []⟩,
    ⟨some 21, .len false (.tmp 20), none, [20], []⟩,
    ⟨some 22, .bin .lss (.tmp 18) (.tmp 21), none, [18, 21], []⟩] [1, 2, 3, 10, 11, 12, 13, 14, 22])
(.cond (.tmp 22)
.skip
(.exit 0)))
(.seq (.block 1 (.seq (.reg false [⟨some 15, .mv (.const (.int .i64 (0))), none, [], []⟩] [1, 2, 3, 10, 11, 12, 13, 14, 15])
(.block 2 (.loop (.seq (.seq (.reg false [⟨some 25, .mv (.tmp 15), none, [15], []⟩,
    ⟨some 26, .foff 0 (.tmp 3), none, [3], []⟩,
    ⟨some 27, .load false 1 (.tmp 26), none, [26], []⟩,
    ⟨some 28, .mv (.tmp 14), none, [14], []⟩,
    ⟨some 29, .idx 2 (.tmp 27) (.tmp 28), none, [27, 28], []⟩,
    ⟨some 30, .foff 1 (.tmp 29), none, [29], []⟩,
    ⟨some 31, .load false 1 (.tmp 30), none, [30], []⟩,
    ⟨some 32, .len false (.tmp 31), none, [31], []⟩,
    ⟨some 33, .bin .lss (.tmp 25) (.tmp 32), none, [25, 32], []⟩] [1, 2, 3, 10, 11, 12, 13, 14, 15, 33])
(.cond (.tmp 33)
.skip
(.exit 2)))
(.seq (.block 3 (.seq (.reg false [⟨some 36, .foff 0 (.tmp 3), none, [3], []⟩,
    ⟨some 37, .load false 1 (.tmp 36), none, [36], []⟩,
    ⟨some 38, .mv (.tmp 14), none, [14], []⟩,
    ⟨some 39, .idx 2 (.tmp 37) (.tmp 38), none, [37, 38], []⟩,
    ⟨some 40, .foff 1 (.tmp 39), none, [39], []⟩,
    ⟨some 41, .load false 1 (.tmp 40), none, [40], []⟩,
    ⟨some 42, .mv (.tmp 15), none, [15], []⟩,
    ⟨some 43, .idx 3 (.tmp 41) (.tmp 42), none, [41, 42], []⟩,
    ⟨some 44, .load true 3 (.tmp 43), none, [43], []⟩,
    ⟨some 16, .new 55 [(.int .i64 (0)), (.int .i64 (0)), (.slice none 0 0)], none, [], []⟩,
    ⟨none, .store 3 (.tmp 16) (.tmp 44), none, [16, 44], []⟩] [1, 2, 3, 10, 11, 12, 13, 14, 15, 16])
(.seq (.seq (.reg false [⟨some 45, .foff 0 (.tmp 16), none, [16], []⟩,
    ⟨some 46, .load false 1 (.tmp 45), none, [45], []⟩,
    ⟨some 47, .mv (.tmp 1), none, [1], []⟩,
    ⟨some 48, .bin .neq (.tmp 46) (.tmp 47), none, [46, 47], []⟩,
    ⟨some 49, .mv (.tmp 48), none, [48], []⟩,
    ⟨some 50, .foff 1 (.tmp 16), some (49, false), [16, 49], []⟩,
    ⟨some 51, .load false 1 (.tmp 50), some (49, false), [50, 49], []⟩,
    ⟨some 52, .mv (.tmp 2), some (49, false), [2, 49], []⟩,
    ⟨some 53, .bin .neq (.tmp 51) (.tmp 52), some (49, false), [51, 52, 49], []⟩,
    ⟨some 54, .pick (.tmp 49) (.const (.bool true)) (.tmp 53), none, [49, 53], []⟩] [1, 2, 3, 10, 11, 12, 13, 14, 15, 16, 54])
(.cond (.tmp 54)
(.exit 3)
.skip))
(.seq (.reg false [⟨some 55, .mv (.tmp 12), none, [12], []⟩,
    ⟨some 56, .bin .add (.tmp 55) (.const (.int .i64 (1))), none, [55], []⟩,
    ⟨some 12, .mv (.tmp 56), none, [56], []⟩] [1, 2, 3, 10, 11, 12, 13, 14, 15, 16])
(.seq (.reg false [⟨some 57, .foff 0 (.tmp 3), none, [3], []⟩,
    ⟨some 58, .load false 1 (.tmp 57), none, [57], []⟩,
    ⟨some 59, .mv (.tmp 14), none, [14], []⟩,
    ⟨some 60, .idx 2 (.tmp 58) (.tmp 59), none, [58, 59], []⟩,
    ⟨some 61, .foff 0 (.tmp 60), none, [60], []⟩,
    ⟨some 62, .load false 1 (.tmp 61), none, [61], []⟩,
    ⟨some 63, .mv (.tmp 10), none, [10], []⟩,
    ⟨some 64, .bin .geq (.tmp 62) (.tmp 63), none, [62, 63], []⟩] [1, 2, 3, 10, 11, 12, 13, 14, 15, 16, 64])
(.cond (.tmp 64)
(.reg true [⟨some 65, .foff 0 (.tmp 3), none, [3], []⟩,
    ⟨some 66, .load false 1 (.tmp 65), none, [65], [0]⟩,
    ⟨some 67, .mv (.tmp 14), none, [14], []⟩,
    ⟨some 68, .idx 2 (.tmp 66) (.tmp 67), none, [66, 67], [1, 2, 0]⟩,
    ⟨some 69, .foff 0 (.tmp 68), none, [68], [3, 1, 2, 0]⟩,
    ⟨some 70, .load false 1 (.tmp 69), none, [69], [4, 3, 1, 2, 0]⟩,
    ⟨some 71, .mv (.tmp 15), none, [15], []⟩,
    ⟨some 72, .foff 2 (.tmp 16), none, [16], []⟩,
    ⟨some 73, .load false 1 (.tmp 72), none, [72], [7]⟩,
    ⟨some 10, .mv (.tmp 70), none, [70], [5, 0, 1, 2, 3, 4]⟩,
    ⟨some 11, .mv (.tmp 71), none, [71], [6, 9, 0, 1, 2, 3, 4, 5]⟩,
    ⟨some 13, .mv (.tmp 73), none, [73], [8, 10, 0, 1, 2, 3, 4, 5, 6, 7, 9]⟩] [1, 2, 3, 10, 11, 12, 13, 14, 15])
.skip))))))
(.reg false [⟨some 34, .mv (.tmp 15), none, [15], []⟩,
    ⟨some 35, .bin .add (.tmp 34) (.const (.int .i64 (1))), none, [34], []⟩,
    ⟨some 15, .mv (.tmp 35), none, [35], []⟩] [1, 2, 3, 10, 11, 12, 13, 14, 15])))))))
(.reg false [⟨some 23, .mv (.tmp 14), none, [14], []⟩,
    ⟨some 24, .bin .add (.tmp 23) (.const (.int .i64 (1))), none, [23], []⟩,
    ⟨some 14, .mv (.tmp 24), none, [24], []⟩] [1, 2, 3, 10, 11, 12, 13, 14]))))))
(.seq (.seq (.reg false [⟨some 17, .mv (.const (.int .i64 (0))), none, [], []⟩] [1, 2, 3, 10, 11, 12, 13, 17])
(.block 4 (.loop (.seq (.seq (.reg false [⟨some 74, .mv (.tmp 17), none, [17], []⟩,
    ⟨some 75, .foff 2 (.tmp 3), none, [3], []⟩,
    ⟨some 76, .load false 1 (.tmp 75), none, [75], []⟩,
    ⟨some 77, .len false (.tmp 76), none, [76], []⟩,
    ⟨some 78, .bin .lss (.tmp 74) (.tmp 77), none, [74, 77], []⟩] [1, 2, 3, 10, 11, 12, 13, 17, 78])
(.cond (.tmp 78)
.skip
(.exit 4)))
(.seq (.block 5 (.seq (.reg false [⟨some 81, .foff 2 (.tmp 3), none, [3], []⟩,
    ⟨some 82, .load false 1 (.tmp 81), none, [81], []⟩,
    ⟨some 83, .mv (.tmp 17), none, [17], []⟩,
    ⟨some 84, .idx 3 (.tmp 82) (.tmp 83), none, [82, 83], []⟩,
    ⟨some 85, .foff 0 (.tmp 84), none, [84], []⟩,
    ⟨some 86, .load false 1 (.tmp 85), none, [85], []⟩,
    ⟨some 87, .mv (.tmp 1), none, [1], []⟩,
    ⟨some 88, .bin .eql (.tmp 86) (.tmp 87), none, [86, 87], []⟩,
    ⟨some 89, .mv (.tmp 88), none, [88], []⟩,
    ⟨some 90, .foff 2 (.tmp 3), some (89, true), [3, 89], []⟩,
    ⟨some 91, .load false 1 (.tmp 90), some (89, true), [90, 89], []⟩,
    ⟨some 92, .mv (.tmp 17), some (89, true), [17, 89], []⟩,
    ⟨some 93, .idx 3 (.tmp 91) (.tmp 92), some (89, true), [91, 92, 89], []⟩,
    ⟨some 94, .foff 1 (.tmp 93), some (89, true), [93, 89], []⟩,
    ⟨some 95, .load false 1 (.tmp 94), some (89, true), [94, 89], []⟩,
    ⟨some 96, .mv (.tmp 2), some (89, true), [2, 89], []⟩,
    ⟨some 97, .bin .eql (.tmp 95) (.tmp 96), some (89, true), [95, 96, 89], []⟩,
    ⟨some 98, .pick (.tmp 89) (.tmp 97) (.const (.bool false)), none, [89, 97], []⟩] [1, 2, 3, 10, 11, 12, 13, 17, 98])
(.cond (.tmp 98)
(.seq (.reg false [⟨some 99, .mv (.tmp 12), none, [12], []⟩,
    ⟨some 100, .bin .add (.tmp 99) (.const (.int .i64 (1))), none, [99], []⟩,
    ⟨some 12, .mv (.tmp 100), none, [100], []⟩] [1, 2, 3, 12, 17])
(.reg true [⟨some 101, .foff 3 (.tmp 3), none, [3], []⟩,
    ⟨some 102, .load false 1 (.tmp 101), none, [101], [0]⟩,
    ⟨some 103, .mv (.tmp 17), none, [17], []⟩,
    ⟨some 104, .foff 2 (.tmp 3), none, [3], []⟩,
    ⟨some 105, .load false 1 (.tmp 104), none, [104], [3]⟩,
    ⟨some 106, .mv (.tmp 17), none, [17], []⟩,
    ⟨some 107, .idx 3 (.tmp 105) (.tmp 106), none, [105, 106], [4, 5, 3]⟩,
    ⟨some 108, .foff 2 (.tmp 107), none, [107], [6, 4, 5, 3]⟩,
    ⟨some 109, .load false 1 (.tmp 108), none, [108], [7, 6, 4, 5, 3]⟩,
    ⟨some 10, .mv (.tmp 102), none, [102], [1, 0]⟩,
    ⟨some 11, .mv (.tmp 103), none, [103], [2, 9, 0, 1]⟩,
    ⟨some 13, .mv (.tmp 109), none, [109], [8, 10, 0, 1, 2, 3, 4, 5, 6, 7, 9]⟩] [1, 2, 3, 10, 11, 12, 13, 17]))
.skip)))
(.reg false [⟨some 79, .mv (.tmp 17), none, [17], []⟩,
    ⟨some 80, .bin .add (.tmp 79) (.const (.int .i64 (1))), none, [79], []⟩,
    ⟨some 17, .mv (.tmp 80), none, [80], []⟩] [1, 2, 3, 10, 11, 12, 13, 17]))))))
(.seq (.reg false [⟨some 110, .mv (.tmp 10), none, [10], []⟩,
    ⟨some 111, .mv (.tmp 11), none, [11], []⟩,
    ⟨some 112, .mv (.tmp 13), none, [13], []⟩,
    ⟨some 113, .mv (.tmp 12), none, [12], []⟩,
    ⟨some 6, .mv (.tmp 110), none, [110], []⟩,
    ⟨some 7, .mv (.tmp 111), none, [111], []⟩,
    ⟨some 8, .mv (.tmp 112), none, [112], []⟩,
    ⟨some 9, .mv (.tmp 113), none, [113], []⟩] [6, 7, 8, 9])
.ret))))))
theorem ok_59 : FnOk Try.prog 59 114 ac_59 [.tmp 6, .tmp 7, .tmp 8, .tmp 9] := ⟨Try.f59, Try.func59, by kernel_rfl, by kernel_rfl, by kernel_rfl, by kernel_rfl, by kernel_rfl⟩
end Go.Proofs.Ytfoeddmbhmfjcaa
/- The page's functions on segments: free, May, Check. -/
namespace Go.Proofs.Ytfoeddmbhmfjcaa
open Go.RowKit
set_option maxRecDepth 100000
def freeB' (s : Sg) : Bool := decide (s.seq = 0 ∧ s.blocks.length = 0)
theorem rfree_spec (fr : Bool) (s : Sg) (nb : Nat) : ASound Try.prog 54 [aSg fr s] nb (.ret (.v (.bool (freeB' s))) []) := by
  refine ok_54.sound (by simp) ⟨al_aSg s, trivial⟩ ?_
  simp only [ac_54, aSg, fBlks, SS, boxA, cellsOf, foffA, loadA, ldA, idxA, fldA, binA, binVal, isSh, intVal, lenA, slenA, pickA, storeA, setN, getN, fillA, extA, beqA, eqsA, eqL, isnilA, unA, unVal, convA, nilA, sconvA, b2sA, b2sOf, bytesOf, mmA, srcA, appA, sliceA, lohi, mkslA, envA, ↓reduceIte, Nat.reduceEqDiff, Nat.reduceAdd, Nat.reduceMul, reduceCtorEq, Nat.reduceLeDiff]
  split
  all_goals exact Ends.data (.inr rfl) (by simp_all [resL, resOne, tupOf, freeB', s_envOf]) trivial
def mayB' (b : Blk) : Bool := decide (1 ≤ b.own ∧ b.own ≤ 2147483647 ∧ 0 ≤ b.idx ∧ b.idx ≤ 255 ∧ b.data.length ≤ 32)
theorem rmay_spec (fr : Bool) (b : Blk) (nb : Nat) : ASound Try.prog 65 [aBlk fr b] nb (.ret (.v (.bool (mayB' b))) []) := by
  refine ok_65.sound (by simp) ⟨al_aBlk b, trivial⟩ ?_
  simp only [ac_65, aBlk, fB, SS, boxA, cellsOf, foffA, loadA, ldA, idxA, fldA, binA, binVal, isSh, intVal, lenA, slenA, pickA, storeA, setN, getN, fillA, extA, beqA, eqsA, eqL, isnilA, unA, unVal, convA, nilA, sconvA, b2sA, b2sOf, bytesOf, mmA, srcA, appA, sliceA, lohi, mkslA, envA, ↓reduceIte, Nat.reduceEqDiff, Nat.reduceAdd, Nat.reduceMul, reduceCtorEq, Nat.reduceLeDiff]
  repeat' split
  all_goals exact Ends.data (.inr rfl) (by simp_all [resL, resOne, tupOf, mayB', s_envOf]; try omega) trivial
def sgOk' (s : Sg) : Bool := decide (1 ≤ s.seq ∧ s.seq ≤ 1099511627776 ∧ 1 ≤ s.blocks.length ∧ s.blocks.length ≤ 8) && s.blocks.all mayB'
abbrev L_rcheck (fr : Bool) (s : Sg) (k : Nat) : ASt := ⟨envOf [(1, .op 0 0), (3, .v (.int .i64 k))], heapOf [(0, .row true 69 [.v (.int .i64 s.seq), .fs fr (eBlks fr s.blocks) s.blocks.length])], 1⟩
theorem rcheck_spec (fr : Bool) (s : Sg) (nb : Nat) : ASound Try.prog 67 [aSg fr s] nb (.ret (.v (.int .i64 (errN (sgOk' s)))) []) := by
  refine ok_67.sound (by simp) ⟨al_aSg s, trivial⟩ ?_
  simp only [ac_67, aSg, fBlks, SS, boxA, cellsOf, foffA, loadA, ldA, idxA, fldA, binA, binVal, isSh, intVal, lenA, slenA, pickA, storeA, setN, getN, fillA, extA, beqA, eqsA, eqL, isnilA, unA, unVal, convA, nilA, sconvA, b2sA, b2sOf, bytesOf, mmA, srcA, appA, sliceA, lohi, mkslA, envA, ↓reduceIte, Nat.reduceEqDiff, Nat.reduceAdd, Nat.reduceMul, reduceCtorEq, Nat.reduceLeDiff]
  repeat' split
  all_goals try exact Ends.data (.inr rfl) (by rw [errN_f (by simp [sgOk']; omega)]; simp [resL, resOne, tupOf, s_envOf]) trivial
  rename_i h1 h2 h3 h4
  refine AWc.family (L_rcheck fr s) (fun k => k ≤ s.blocks.length ∧ ∀ j b, s.blocks[j]? = some b → j < k → mayB' b = true) (fun k => s.blocks.length - k) 0 ⟨Nat.zero_le _, fun j b _ h => absurd h (Nat.not_lt_zero _)⟩ ?_ ?_
  · refine Weak.calc [(0, 0)] (by decide) ?_ ?_ <;> simp [tk_B, tk_Bools, tk_Blks, tk_Segs, AlL_append, renL_append, okL, okH, rowIs, okV, okHV, rowVt, vtL, okF, okHF, rowFz, fzL, fzV, fzOne, nilLike, oldLike, rn, s_envOf, s_envOf0, s_heapOf, s_heapOf0, s_put, s_put0, s_put1, s_app0, s_app1, Al, AlL, ren, renL, al_B, al_Bools, al_Blks, al_Segs, ren_B, ren_Bools, ren_Blks, ren_Segs, fB, fBools, fBlks, fSegs]
  · rintro k ⟨hk, hj⟩
    by_cases hlt : k < s.blocks.length
    · obtain ⟨b, hb, e1, e0⟩ := lt_at hlt
      obtain ⟨g0, g1, g2, g3⟩ := get_Blks3 (fr := fr) hb
      simp only [L_rcheck, g0, g1, g2, e1, e0, SS, boxA, cellsOf, foffA, loadA, ldA, idxA, fldA, binA, binVal, isSh, intVal, lenA, slenA, pickA, storeA, setN, getN, fillA, extA, beqA, eqsA, eqL, isnilA, unA, unVal, convA, nilA, sconvA, b2sA, b2sOf, bytesOf, mmA, srcA, appA, sliceA, lohi, mkslA, envA, ↓reduceIte, Nat.reduceEqDiff, Nat.reduceAdd, Nat.reduceMul, reduceCtorEq, Nat.reduceLeDiff]
      refine ⟨_, rmay_spec fr b _, ?_⟩
      simp only [SS, boxA, cellsOf, foffA, loadA, ldA, idxA, fldA, binA, binVal, isSh, intVal, lenA, slenA, pickA, storeA, setN, getN, fillA, extA, beqA, eqsA, eqL, isnilA, unA, unVal, convA, nilA, sconvA, b2sA, b2sOf, bytesOf, mmA, srcA, appA, sliceA, lohi, mkslA, envA, ↓reduceIte, Nat.reduceEqDiff, Nat.reduceAdd, Nat.reduceMul, reduceCtorEq, Nat.reduceLeDiff]
      split
      · rename_i hm
        exact Ends.data (.inr rfl) (by rw [errN_f (by simp [sgOk']; intro _ _ _ _; exact ⟨b, List.mem_of_getElem? hb, by simpa using hm⟩)]; simp [resL, resOne, tupOf, s_envOf]) trivial
      · rename_i hm
        refine famC_next (k + 1) (by omega) ⟨by omega, fun j b' hj1 hj2 => ?_⟩ ?_
        · by_cases e : j = k
          · subst e; rw [hb] at hj1; cases hj1; simpa using hm
          · exact hj j b' hj1 (by omega)
        · refine Weak.calc [(0, 0)] (by decide) ?_ ?_ <;> simp [tk_B, tk_Bools, tk_Blks, tk_Segs, AlL_append, renL_append, okL, okH, rowIs, okV, okHV, rowVt, vtL, okF, okHF, rowFz, fzL, fzV, fzOne, nilLike, oldLike, rn, s_envOf, s_envOf0, s_heapOf, s_heapOf0, s_put, s_put0, s_put1, s_app0, s_app1, Al, AlL, ren, renL, al_B, al_Bools, al_Blks, al_Segs, ren_B, ren_Bools, ren_Blks, ren_Segs, fB, fBools, fBlks, fSegs, wrap64 (x := (k : Int) + 1) (by omega)]
    · have e1 : ¬ ((k : Int) < (s.blocks.length : Int)) := by omega
      simp only [L_rcheck, e1, SS, boxA, cellsOf, foffA, loadA, ldA, idxA, fldA, binA, binVal, isSh, intVal, lenA, slenA, pickA, storeA, setN, getN, fillA, extA, beqA, eqsA, eqL, isnilA, unA, unVal, convA, nilA, sconvA, b2sA, b2sOf, bytesOf, mmA, srcA, appA, sliceA, lohi, mkslA, envA, ↓reduceIte, Nat.reduceEqDiff, Nat.reduceAdd, Nat.reduceMul, reduceCtorEq, Nat.reduceLeDiff]
      refine Ends.data (.inr rfl) ?_ trivial
      rw [errN_t]
      · simp [resL, resOne, tupOf, s_envOf]
      · simp [sgOk']
        refine ⟨by omega, fun b hb => ?_⟩
        obtain ⟨j, hj1, rfl⟩ := List.mem_iff_getElem.1 hb
        exact hj j _ (List.getElem?_eq_getElem hj1) (by omega)
end Go.Proofs.Ytfoeddmbhmfjcaa
/- The page's last. -/
namespace Go.Proofs.Ytfoeddmbhmfjcaa
open Go.RowKit
set_option maxRecDepth 100000
structure LA where
  q : Int
  a : Int
  d : List Int
  n : Nat
def stepSeg (o x seq : Int) (acc : LA) (p : Blk × Nat) : LA := if p.1.own = o ∧ p.1.idx = x then (if acc.q ≤ seq then ⟨seq, p.2, p.1.data, acc.n + 1⟩ else ⟨acc.q, acc.a, acc.d, acc.n + 1⟩) else acc
def stepOpn (o x next : Int) (acc : LA) (p : Blk × Nat) : LA := if p.1.own = o ∧ p.1.idx = x then ⟨next, p.2, p.1.data, acc.n + 1⟩ else acc
def segF (o x : Int) (acc : LA) (s : Sg) : LA := s.blocks.zipIdx.foldl (stepSeg o x s.seq) acc
def segsF (o x : Int) (l : List Sg) : LA := l.foldl (segF o x) ⟨0, 0, [], 0⟩
def lastF (s : St) (o x : Int) : LA := s.opn.zipIdx.foldl (stepOpn o x s.next) (segsF o x s.segs)
theorem zip_take {α β : Type} {l : List α} {k : Nat} {b : α} (h : l[k]? = some b) (f : β → α × Nat → β) (a : β) : (l.take (k + 1)).zipIdx.foldl f a = f ((l.take k).zipIdx.foldl f a) (b, k) := by
  obtain ⟨hk, rfl⟩ := List.getElem?_eq_some_iff.1 h
  rw [List.take_succ_eq_append_getElem hk, List.zipIdx_append, List.foldl_append]
  simp [Nat.min_eq_left (Nat.le_of_lt hk)]
theorem fold_take {α β : Type} {l : List α} {k : Nat} {b : α} (h : l[k]? = some b) (f : β → α → β) (a : β) : (l.take (k + 1)).foldl f a = f ((l.take k).foldl f a) b := by
  obtain ⟨hk, rfl⟩ := List.getElem?_eq_some_iff.1 h
  rw [List.take_succ_eq_append_getElem hk, List.foldl_append]; rfl
theorem stepSeg_n {o x seq : Int} {acc : LA} {p : Blk × Nat} : (stepSeg o x seq acc p).n ≤ acc.n + 1 := by unfold stepSeg; split <;> (try split) <;> simp
theorem stepOpn_n {o x seq : Int} {acc : LA} {p : Blk × Nat} : (stepOpn o x seq acc p).n ≤ acc.n + 1 := by unfold stepOpn; split <;> simp
theorem foldSeg_n {o x seq : Int} : ∀ (l : List (Blk × Nat)) (acc : LA), (l.foldl (stepSeg o x seq) acc).n ≤ acc.n + l.length
  | [], acc => Nat.le_refl _
  | p :: l, acc => by
    have h1 := foldSeg_n (o := o) (x := x) (seq := seq) l (stepSeg o x seq acc p)
    have h2 : (stepSeg o x seq acc p).n ≤ acc.n + 1 := stepSeg_n
    simp only [List.foldl_cons, List.length_cons]
    omega
theorem foldOpn_n {o x seq : Int} : ∀ (l : List (Blk × Nat)) (acc : LA), (l.foldl (stepOpn o x seq) acc).n ≤ acc.n + l.length
  | [], acc => Nat.le_refl _
  | p :: l, acc => by
    have h1 := foldOpn_n (o := o) (x := x) (seq := seq) l (stepOpn o x seq acc p)
    have h2 : (stepOpn o x seq acc p).n ≤ acc.n + 1 := stepOpn_n
    simp only [List.foldl_cons, List.length_cons]
    omega
theorem segsF_n {o x : Int} : ∀ (l : List Sg) (acc : LA), (∀ s ∈ l, s.blocks.length ≤ 8) → (l.foldl (segF o x) acc).n ≤ acc.n + 8 * l.length
  | [], acc, _ => by simp
  | s :: l, acc, h => by
    have h1 := segsF_n (o := o) (x := x) l (segF o x acc s) (fun s hs => h s (by simp [hs]))
    have h2 : (segF o x acc s).n ≤ acc.n + s.blocks.zipIdx.length := foldSeg_n _ _
    have h3 := h s (by simp)
    simp only [List.foldl_cons, List.length_cons, List.length_zipIdx] at *
    omega
theorem segsF_le {o x : Int} {l : List Sg} (h1 : l.length ≤ 64) (h2 : ∀ g ∈ l, g.blocks.length ≤ 8) (i : Nat) : (segsF o x (l.take i)).n ≤ 512 := by
  have h3 := segsF_n (o := o) (x := x) (l.take i) ⟨0, 0, [], 0⟩ (fun q hq => h2 q (List.mem_of_mem_take hq))
  have h4 : (l.take i).length ≤ l.length := by simp; omega
  unfold segsF
  simp only at h3
  omega
abbrev stRow (t : Nat) (fr : Bool) (s : St) : AObj := .row true t [fSegs fr s.segs, fBools fr s.held, fBlks fr s.opn, .v (.int .i64 s.next)]
abbrev laV (fr : Bool) (A : LA) : List (Nat × AV) := [(10, .v (.int .i64 A.q)), (11, .v (.int .i64 A.a)), (12, .v (.int .i64 A.n)), (13, fB fr A.d)]
abbrev L1_last (fr : Bool) (s : St) (o x : Int) (i : Nat) (A : LA) : ASt := ⟨envOf [(1, .v (.int .i64 o)), (2, .v (.int .i64 x)), (3, .op 0 0), (10, .v (.int .i64 A.q)), (11, .v (.int .i64 A.a)), (12, .v (.int .i64 A.n)), (13, fB fr A.d), (14, .v (.int .i64 i))], heapOf [(0, stRow 32 fr s)], 1⟩
abbrev L2_last (fr : Bool) (s : St) (o x : Int) (i k : Nat) (A : LA) : ASt := ⟨envOf [(1, .v (.int .i64 o)), (2, .v (.int .i64 x)), (3, .op 0 0), (10, .v (.int .i64 A.q)), (11, .v (.int .i64 A.a)), (12, .v (.int .i64 A.n)), (13, fB fr A.d), (14, .v (.int .i64 i)), (15, .v (.int .i64 k))], heapOf [(0, stRow 32 fr s)], 1⟩
abbrev L3_last (fr : Bool) (s : St) (o x : Int) (k : Nat) (A : LA) : ASt := ⟨envOf [(1, .v (.int .i64 o)), (2, .v (.int .i64 x)), (3, .op 0 0), (10, .v (.int .i64 A.q)), (11, .v (.int .i64 A.a)), (12, .v (.int .i64 A.n)), (13, fB fr A.d), (17, .v (.int .i64 k))], heapOf [(0, stRow 32 fr s)], 1⟩
set_option maxHeartbeats 1000000 in
theorem last_spec (fr : Bool) (s : St) (o x : Int) (nb : Nat) (h1 : s.segs.length ≤ 64) (h2 : ∀ g ∈ s.segs, g.blocks.length ≤ 8) (h3 : s.opn.length ≤ 8) : ASound Try.prog 59 [aSt fr s, .v (.int .i64 o), .v (.int .i64 x)] nb
    (.ret (.tup [.v (.int .i64 (lastF s o x).q), .v (.int .i64 (lastF s o x).a), fB fr (lastF s o x).d, .v (.int .i64 (lastF s o x).n)]) []) := by
  refine ok_59.sound (by simp) ⟨al_aSt s, trivial, trivial, trivial⟩ ?_
  simp only [ac_59, aSt, SS, boxA, cellsOf, foffA, loadA, ldA, idxA, fldA, binA, binVal, isSh, intVal, lenA, slenA, pickA, storeA, setN, getN, fillA, extA, beqA, eqsA, eqL, isnilA, unA, unVal, convA, nilA, sconvA, b2sA, b2sOf, bytesOf, mmA, srcA, appA, sliceA, lohi, mkslA, envA, ↓reduceIte, Nat.reduceEqDiff, Nat.reduceAdd, Nat.reduceMul, reduceCtorEq, Nat.reduceLeDiff]
  refine AWc.family (fun i => L1_last fr s o x i (segsF o x (s.segs.take i))) (fun i => i ≤ s.segs.length) (fun i => s.segs.length - i) 0 (Nat.zero_le _) ?_ ?_
  · refine Weak.calc [(0, 0)] (by decide) ?_ ?_ <;> simp [segsF, fB, eB, tk_B, tk_Bools, tk_Blks, tk_Segs, AlL_append, renL_append, okL, okH, rowIs, okV, okHV, rowVt, vtL, okF, okHF, rowFz, fzL, fzV, fzOne, nilLike, oldLike, rn, s_envOf, s_envOf0, s_heapOf, s_heapOf0, s_put, s_put0, s_put1, s_app0, s_app1, Al, AlL, ren, renL, al_B, al_Bools, al_Blks, al_Segs, ren_B, ren_Bools, ren_Blks, ren_Segs, fB, fBools, fBlks, fSegs]
  · intro i hi
    by_cases hlt : i < s.segs.length
    · obtain ⟨g, hg, e1, e0⟩ := lt_at hlt
      obtain ⟨g0, g1⟩ := get_Segs (fr := fr) hg
      have hgl := h2 g (List.mem_of_getElem? hg)
      have hN' := segsF_le (o := o) (x := x) h1 h2 i
      have hf : segsF o x (s.segs.take (i + 1)) = segF o x (segsF o x (s.segs.take i)) g := fold_take hg _ _
      generalize segsF o x (s.segs.take i) = A at hf hN'
      simp only [L1_last, stRow, fSegs, fBlks, fBools, fB, e1, SS, boxA, cellsOf, foffA, loadA, ldA, idxA, fldA, binA, binVal, isSh, intVal, lenA, slenA, pickA, storeA, setN, getN, fillA, extA, beqA, eqsA, eqL, isnilA, unA, unVal, convA, nilA, sconvA, b2sA, b2sOf, bytesOf, mmA, srcA, appA, sliceA, lohi, mkslA, envA, ↓reduceIte, Nat.reduceEqDiff, Nat.reduceAdd, Nat.reduceMul, reduceCtorEq, Nat.reduceLeDiff]
      refine AWc.family (fun k => L2_last fr s o x i k ((g.blocks.take k).zipIdx.foldl (stepSeg o x g.seq) A)) (fun k => k ≤ g.blocks.length) (fun k => g.blocks.length - k) 0 (Nat.zero_le _) ?_ ?_
      · refine Weak.calc [(0, 0)] (by decide) ?_ ?_ <;> simp [tk_B, tk_Bools, tk_Blks, tk_Segs, AlL_append, renL_append, okL, okH, rowIs, okV, okHV, rowVt, vtL, okF, okHF, rowFz, fzL, fzV, fzOne, nilLike, oldLike, rn, s_envOf, s_envOf0, s_heapOf, s_heapOf0, s_put, s_put0, s_put1, s_app0, s_app1, Al, AlL, ren, renL, al_B, al_Bools, al_Blks, al_Segs, ren_B, ren_Bools, ren_Blks, ren_Segs, fB, fBools, fBlks, fSegs]
      · intro k hk
        by_cases hkl : k < g.blocks.length
        · obtain ⟨b, hb, f1, f0⟩ := lt_at hkl
          obtain ⟨b0, b1, b2, b3⟩ := get_Blks3 (fr := fr) hb
          have hs := zip_take hb (stepSeg o x g.seq) A
          have hM := foldSeg_n (o := o) (x := x) (seq := g.seq) (g.blocks.take k).zipIdx A
          have hM' : ((g.blocks.take k).zipIdx.foldl (stepSeg o x g.seq) A).n ≤ 520 := by simp at hM; omega
          generalize (g.blocks.take k).zipIdx.foldl (stepSeg o x g.seq) A = C at hs hM'
          simp only [L2_last, stRow, fSegs, fBlks, fB, g0, g1, b0, b1, b2, e1, e0, f1, f0, SS, boxA, cellsOf, foffA, loadA, ldA, idxA, fldA, binA, binVal, isSh, intVal, lenA, slenA, pickA, storeA, setN, getN, fillA, extA, beqA, eqsA, eqL, isnilA, unA, unVal, convA, nilA, sconvA, b2sA, b2sOf, bytesOf, mmA, srcA, appA, sliceA, lohi, mkslA, envA, ↓reduceIte, Nat.reduceEqDiff, Nat.reduceAdd, Nat.reduceMul, reduceCtorEq, Nat.reduceLeDiff]
          repeat' split
          all_goals try (refine ⟨by rfl, ?_⟩)
          all_goals
            refine famC_next (k + 1) (by omega) (by omega) ?_
            refine Weak.calc [(0, 0)] (by decide) ?_ ?_ <;> simp_all [stepSeg, tk_B, tk_Bools, tk_Blks, tk_Segs, AlL_append, renL_append, okL, okH, rowIs, okV, okHV, rowVt, vtL, okF, okHF, rowFz, fzL, fzV, fzOne, nilLike, oldLike, rn, s_envOf, s_envOf0, s_heapOf, s_heapOf0, s_put, s_put0, s_put1, s_app0, s_app1, Al, AlL, ren, renL, al_B, al_Bools, al_Blks, al_Segs, ren_B, ren_Bools, ren_Blks, ren_Segs, fB, fBools, fBlks, fSegs, wrap64 (x := (k : Int) + 1) (by omega), wrap64 (x := (C.n : Int) + 1) (by omega)]
        · have f1 : ¬ ((k : Int) < (g.blocks.length : Int)) := by omega
          simp only [L2_last, stRow, fSegs, fBlks, fBools, fB, g1, e1, e0, f1, SS, boxA, cellsOf, foffA, loadA, ldA, idxA, fldA, binA, binVal, isSh, intVal, lenA, slenA, pickA, storeA, setN, getN, fillA, extA, beqA, eqsA, eqL, isnilA, unA, unVal, convA, nilA, sconvA, b2sA, b2sOf, bytesOf, mmA, srcA, appA, sliceA, lohi, mkslA, envA, ↓reduceIte, Nat.reduceEqDiff, Nat.reduceAdd, Nat.reduceMul, reduceCtorEq, Nat.reduceLeDiff]
          refine famC_next (i + 1) (by omega) (by omega) ?_
          obtain rfl : k = g.blocks.length := by omega
          refine Weak.calc [(0, 0)] (by decide) ?_ ?_ <;> simp [hf, segF, tk_B, tk_Bools, tk_Blks, tk_Segs, AlL_append, renL_append, okL, okH, rowIs, okV, okHV, rowVt, vtL, okF, okHF, rowFz, fzL, fzV, fzOne, nilLike, oldLike, rn, s_envOf, s_envOf0, s_heapOf, s_heapOf0, s_put, s_put0, s_put1, s_app0, s_app1, Al, AlL, ren, renL, al_B, al_Bools, al_Blks, al_Segs, ren_B, ren_Bools, ren_Blks, ren_Segs, fB, fBools, fBlks, fSegs, wrap64 (x := (i : Int) + 1) (by omega)]
    · have e1 : ¬ ((i : Int) < (s.segs.length : Int)) := by omega
      simp only [L1_last, stRow, fSegs, fBlks, fB, fBools, e1, SS, boxA, cellsOf, foffA, loadA, ldA, idxA, fldA, binA, binVal, isSh, intVal, lenA, slenA, pickA, storeA, setN, getN, fillA, extA, beqA, eqsA, eqL, isnilA, unA, unVal, convA, nilA, sconvA, b2sA, b2sOf, bytesOf, mmA, srcA, appA, sliceA, lohi, mkslA, envA, ↓reduceIte, Nat.reduceEqDiff, Nat.reduceAdd, Nat.reduceMul, reduceCtorEq, Nat.reduceLeDiff]
      obtain rfl : i = s.segs.length := by omega
      have hN' := segsF_le (o := o) (x := x) h1 h2 s.segs.length
      rw [List.take_length] at hN'
      rw [List.take_length]
      refine AWc.family (fun k => L3_last fr s o x k ((s.opn.take k).zipIdx.foldl (stepOpn o x s.next) (segsF o x s.segs))) (fun k => k ≤ s.opn.length) (fun k => s.opn.length - k) 0 (Nat.zero_le _) ?_ ?_
      · refine Weak.calc [(0, 0)] (by decide) ?_ ?_ <;> simp [tk_B, tk_Bools, tk_Blks, tk_Segs, AlL_append, renL_append, okL, okH, rowIs, okV, okHV, rowVt, vtL, okF, okHF, rowFz, fzL, fzV, fzOne, nilLike, oldLike, rn, s_envOf, s_envOf0, s_heapOf, s_heapOf0, s_put, s_put0, s_put1, s_app0, s_app1, Al, AlL, ren, renL, al_B, al_Bools, al_Blks, al_Segs, ren_B, ren_Bools, ren_Blks, ren_Segs, fB, fBools, fBlks, fSegs]
      · intro k hk
        by_cases hkl : k < s.opn.length
        · obtain ⟨b, hb, f1, f0⟩ := lt_at hkl
          obtain ⟨b0, b1, b2, b3⟩ := get_Blks3 (fr := fr) hb
          have hs := zip_take hb (stepOpn o x s.next) (segsF o x s.segs)
          have hM := foldOpn_n (o := o) (x := x) (seq := s.next) (s.opn.take k).zipIdx (segsF o x s.segs)
          have hM' : ((s.opn.take k).zipIdx.foldl (stepOpn o x s.next) (segsF o x s.segs)).n ≤ 520 := by simp at hM; omega
          generalize (s.opn.take k).zipIdx.foldl (stepOpn o x s.next) (segsF o x s.segs) = C at hs hM'
          simp only [L3_last, stRow, fSegs, fBlks, fBools, fB, b0, b1, b3, f1, f0, SS, boxA, cellsOf, foffA, loadA, ldA, idxA, fldA, binA, binVal, isSh, intVal, lenA, slenA, pickA, storeA, setN, getN, fillA, extA, beqA, eqsA, eqL, isnilA, unA, unVal, convA, nilA, sconvA, b2sA, b2sOf, bytesOf, mmA, srcA, appA, sliceA, lohi, mkslA, envA, ↓reduceIte, Nat.reduceEqDiff, Nat.reduceAdd, Nat.reduceMul, reduceCtorEq, Nat.reduceLeDiff]
          repeat' split
          all_goals try (refine ⟨by rfl, ?_⟩)
          all_goals
            refine famC_next (k + 1) (by omega) (by omega) ?_
            refine Weak.calc [(0, 0)] (by decide) ?_ ?_ <;> simp_all [stepOpn, tk_B, tk_Bools, tk_Blks, tk_Segs, AlL_append, renL_append, okL, okH, rowIs, okV, okHV, rowVt, vtL, okF, okHF, rowFz, fzL, fzV, fzOne, nilLike, oldLike, rn, s_envOf, s_envOf0, s_heapOf, s_heapOf0, s_put, s_put0, s_put1, s_app0, s_app1, Al, AlL, ren, renL, al_B, al_Bools, al_Blks, al_Segs, ren_B, ren_Bools, ren_Blks, ren_Segs, fB, fBools, fBlks, fSegs, wrap64 (x := (k : Int) + 1) (by omega), wrap64 (x := (C.n : Int) + 1) (by omega)]
        · have f1 : ¬ ((k : Int) < (s.opn.length : Int)) := by omega
          obtain rfl : k = s.opn.length := by omega
          rw [List.take_length]
          simp only [L3_last, stRow, fSegs, fBlks, fBools, fB, f1, SS, boxA, cellsOf, foffA, loadA, ldA, idxA, fldA, binA, binVal, isSh, intVal, lenA, slenA, pickA, storeA, setN, getN, fillA, extA, beqA, eqsA, eqL, isnilA, unA, unVal, convA, nilA, sconvA, b2sA, b2sOf, bytesOf, mmA, srcA, appA, sliceA, lohi, mkslA, envA, ↓reduceIte, Nat.reduceEqDiff, Nat.reduceAdd, Nat.reduceMul, reduceCtorEq, Nat.reduceLeDiff]
          exact Ends.data (.inr rfl) (by simp [lastF, fB, resL, resOne, tupOf, getN, s_envOf, s_envOf0, s_heapOf, s_heapOf0, s_put1, s_app0, s_app1]) ⟨trivial, trivial, al_fB _, trivial, trivial⟩
end Go.Proofs.Ytfoeddmbhmfjcaa
/- The page's Check, and used. -/
namespace Go.Proofs.Ytfoeddmbhmfjcaa
open Go.RowKit
set_option maxRecDepth 100000
def segOkAt (s : St) (i : Nat) : Bool := match s.segs[i]? with
  | some x => freeB' x || (sgOk' x && decide (x.seq < s.next) && (s.segs.take i).all fun y => decide (y.seq ≠ x.seq))
  | none => true
def rHead (s : St) : Bool := decide (1 ≤ s.segs.length ∧ s.segs.length ≤ 64 ∧ s.held.length = s.segs.length ∧ 1 ≤ s.next ∧ s.next ≤ 1099511627776 ∧ s.opn.length ≤ 8)
/-- may a state be, by the page? -/
def rchk (s : St) : Bool := rHead s && (List.range s.segs.length).all (segOkAt s) && s.opn.all mayB'
theorem rchk_head {s : St} (h : rHead s = false) : rchk s = false := by simp [rchk, h]
theorem rchk_seg {s : St} {i : Nat} {x : Sg} (hx : s.segs[i]? = some x) (h1 : freeB' x = false) (h2 : sgOk' x = false ∨ ¬ x.seq < s.next ∨ ∃ (k : Nat) (y : Sg), k < i ∧ s.segs[k]? = some y ∧ y.seq = x.seq) : rchk s = false := by
  have hi : i < s.segs.length := by rw [List.getElem?_eq_some_iff] at hx; exact hx.1
  have h3 : segOkAt s i = false := by
    rcases h2 with h2 | h2 | ⟨k, y, h2, h4, h5⟩
    · simp [segOkAt, hx, h1, h2]
    · simp [segOkAt, hx, h1]; intro _ h9; exact absurd h9 h2
    · simp [segOkAt, hx, h1]
      intro _ _
      refine ⟨y, List.mem_of_getElem? (i := k) (by rw [List.getElem?_take, if_pos h2]; exact h4), h5⟩
  have : (List.range s.segs.length).all (segOkAt s) = false := by
    rw [List.all_eq_false]
    exact ⟨i, List.mem_range.2 hi, by rw [h3]; simp⟩
  simp [rchk, this]
theorem rchk_opn {s : St} {b : Blk} {k : Nat} (hb : s.opn[k]? = some b) (h : mayB' b = false) : rchk s = false := by
  have : s.opn.all mayB' = false := by
    rw [List.all_eq_false]
    exact ⟨b, List.mem_of_getElem? hb, by rw [h]; simp⟩
  simp [rchk, this]
abbrev L1_chk (fr : Bool) (s : St) (i : Nat) : ASt := ⟨envOf [(1, .op 0 0), (3, .v (.int .i64 s.segs.length)), (4, .v (.int .i64 i))], heapOf [(0, stRow 32 fr s)], 1⟩
abbrev L2_chk (fr : Bool) (s : St) (x : Sg) (i k : Nat) : ASt := ⟨envOf [(1, .op 0 0), (3, .v (.int .i64 s.segs.length)), (4, .v (.int .i64 i)), (5, .op 1 0), (6, .v (.int .i64 k))], heapOf [(0, stRow 32 fr s), (1, .row true 69 [.v (.int .i64 x.seq), fBlks fr x.blocks])], 2⟩
abbrev L3_chk (fr : Bool) (s : St) (k : Nat) : ASt := ⟨envOf [(1, .op 0 0), (7, .v (.int .i64 k))], heapOf [(0, stRow 32 fr s)], 1⟩
set_option maxHeartbeats 1000000 in
theorem rCheck_spec (fr : Bool) (s : St) (nb : Nat) : ASound Try.prog 34 [aSt fr s] nb (.ret (.v (.int .i64 (errN (rchk s)))) []) := by
  refine ok_34.sound (by simp) ⟨al_aSt s, trivial⟩ ?_
  simp only [ac_34, SS, boxA, cellsOf, foffA, loadA, ldA, idxA, fldA, binA, binVal, isSh, intVal, lenA, slenA, pickA, storeA, setN, getN, fillA, extA, beqA, eqsA, eqL, isnilA, unA, unVal, convA, nilA, sconvA, b2sA, b2sOf, bytesOf, mmA, srcA, appA, sliceA, lohi, mkslA, envA, ↓reduceIte, Nat.reduceEqDiff, Nat.reduceAdd, Nat.reduceMul, reduceCtorEq, Nat.reduceLeDiff, fB, fBools, fBlks, fSegs, aBlk, aSg, aSt, stRow, List.drop_zero, List.take_succ_cons, List.take_zero, List.take_nil, Nat.mul_one, Nat.one_mul, List.cons_append, List.nil_append]
  repeat' split
  all_goals try exact Ends.data (.inr rfl) (by rw [errN_f (rchk_head (by simp [rHead]; omega))]; simp [resL, resOne, tupOf, getN, s_envOf, s_envOf0, s_heapOf, s_heapOf0, s_put1, s_app0, s_app1]) trivial
  rename_i h1 h2 h3 h4 h5 h6
  refine AWc.family (L1_chk fr s) (fun i => i ≤ s.segs.length ∧ ∀ j, j < i → segOkAt s j = true) (fun i => s.segs.length - i) 0 ⟨Nat.zero_le _, fun j h => absurd h (Nat.not_lt_zero _)⟩ ?_ ?_
  · refine Weak.calc [(0, 0)] (by decide) ?_ ?_ <;> simp [tk_B, tk_Bools, tk_Blks, tk_Segs, AlL_append, renL_append, okL, okH, rowIs, okV, okHV, rowVt, vtL, okF, okHF, rowFz, fzL, fzV, fzOne, nilLike, oldLike, rn, s_envOf, s_envOf0, s_heapOf, s_heapOf0, s_put, s_put0, s_put1, s_app0, s_app1, Al, AlL, ren, renL, al_B, al_Bools, al_Blks, al_Segs, ren_B, ren_Bools, ren_Blks, ren_Segs, fB, fBools, fBlks, fSegs]
  · rintro i ⟨hi, hok⟩
    by_cases hlt : i < s.segs.length
    · obtain ⟨x, hx, e1, e0⟩ := lt_at hlt
      obtain ⟨g0, g1⟩ := get_Segs (fr := fr) hx
      have hs : segOkAt s i = (freeB' x || (sgOk' x && decide (x.seq < s.next) && (s.segs.take i).all fun y => decide (y.seq ≠ x.seq))) := by simp [segOkAt, hx]
      simp only [L1_chk, g0, g1, e1, e0, SS, boxA, cellsOf, foffA, loadA, ldA, idxA, fldA, binA, binVal, isSh, intVal, lenA, slenA, pickA, storeA, setN, getN, fillA, extA, beqA, eqsA, eqL, isnilA, unA, unVal, convA, nilA, sconvA, b2sA, b2sOf, bytesOf, mmA, srcA, appA, sliceA, lohi, mkslA, envA, ↓reduceIte, Nat.reduceEqDiff, Nat.reduceAdd, Nat.reduceMul, reduceCtorEq, Nat.reduceLeDiff, fB, fBools, fBlks, fSegs, aBlk, aSg, aSt, stRow, List.drop_zero, List.take_succ_cons, List.take_zero, List.take_nil, Nat.mul_one, Nat.one_mul, List.cons_append, List.nil_append]
      refine ⟨_, rfree_spec fr x _, ?_⟩
      simp only [SS, boxA, cellsOf, foffA, loadA, ldA, idxA, fldA, binA, binVal, isSh, intVal, lenA, slenA, pickA, storeA, setN, getN, fillA, extA, beqA, eqsA, eqL, isnilA, unA, unVal, convA, nilA, sconvA, b2sA, b2sOf, bytesOf, mmA, srcA, appA, sliceA, lohi, mkslA, envA, ↓reduceIte, Nat.reduceEqDiff, Nat.reduceAdd, Nat.reduceMul, reduceCtorEq, Nat.reduceLeDiff]
      split
      · rename_i hf
        refine famC_next (i + 1) (by omega) ⟨by omega, fun j hj => ?_⟩ ?_
        · by_cases e : j = i
          · subst e; rw [hs, hf]; rfl
          · exact hok j (by omega)
        · refine Weak.calc [(0, 0)] (by decide) ?_ ?_ <;> simp [tk_B, tk_Bools, tk_Blks, tk_Segs, AlL_append, renL_append, okL, okH, rowIs, okV, okHV, rowVt, vtL, okF, okHF, rowFz, fzL, fzV, fzOne, nilLike, oldLike, rn, s_envOf, s_envOf0, s_heapOf, s_heapOf0, s_put, s_put0, s_put1, s_app0, s_app1, Al, AlL, ren, renL, al_B, al_Bools, al_Blks, al_Segs, ren_B, ren_Bools, ren_Blks, ren_Segs, fB, fBools, fBlks, fSegs, wrap64 (x := (i : Int) + 1) (by omega)]
      · rename_i hf
        have hf' : freeB' x = false := by simpa using hf
        refine ⟨_, rcheck_spec fr x _, ?_⟩
        simp only [SS, boxA, cellsOf, foffA, loadA, ldA, idxA, fldA, binA, binVal, isSh, intVal, lenA, slenA, pickA, storeA, setN, getN, fillA, extA, beqA, eqsA, eqL, isnilA, unA, unVal, convA, nilA, sconvA, b2sA, b2sOf, bytesOf, mmA, srcA, appA, sliceA, lohi, mkslA, envA, ↓reduceIte, Nat.reduceEqDiff, Nat.reduceAdd, Nat.reduceMul, reduceCtorEq, Nat.reduceLeDiff]
        cases hq : sgOk' x with
        | false =>
          simp only [errN_f, SS, boxA, cellsOf, foffA, loadA, ldA, idxA, fldA, binA, binVal, isSh, intVal, lenA, slenA, pickA, storeA, setN, getN, fillA, extA, beqA, eqsA, eqL, isnilA, unA, unVal, convA, nilA, sconvA, b2sA, b2sOf, bytesOf, mmA, srcA, appA, sliceA, lohi, mkslA, envA, ↓reduceIte, Nat.reduceEqDiff, Nat.reduceAdd, Nat.reduceMul, reduceCtorEq, Nat.reduceLeDiff, fB, fBools, fBlks, fSegs, aBlk, aSg, aSt, stRow, List.drop_zero, List.take_succ_cons, List.take_zero, List.take_nil, Nat.mul_one, Nat.one_mul, List.cons_append, List.nil_append]
          exact Ends.data (.inr rfl) (by rw [errN_f (rchk_seg hx hf' (.inl hq))]; simp [resL, resOne, tupOf, getN, s_envOf, s_envOf0, s_heapOf, s_heapOf0, s_put1, s_app0, s_app1]) trivial
        | true =>
          simp only [errN_t, SS, boxA, cellsOf, foffA, loadA, ldA, idxA, fldA, binA, binVal, isSh, intVal, lenA, slenA, pickA, storeA, setN, getN, fillA, extA, beqA, eqsA, eqL, isnilA, unA, unVal, convA, nilA, sconvA, b2sA, b2sOf, bytesOf, mmA, srcA, appA, sliceA, lohi, mkslA, envA, ↓reduceIte, Nat.reduceEqDiff, Nat.reduceAdd, Nat.reduceMul, reduceCtorEq, Nat.reduceLeDiff, fB, fBools, fBlks, fSegs, aBlk, aSg, aSt, stRow, List.drop_zero, List.take_succ_cons, List.take_zero, List.take_nil, Nat.mul_one, Nat.one_mul, List.cons_append, List.nil_append]
          split
          · rename_i hn
            exact Ends.data (.inr rfl) (by rw [errN_f (rchk_seg hx hf' (.inr (.inl (by omega))))]; simp [resL, resOne, tupOf, getN, s_envOf, s_envOf0, s_heapOf, s_heapOf0, s_put1, s_app0, s_app1]) trivial
          · rename_i hn
            refine AWc.family (L2_chk fr s x i) (fun k => k ≤ i ∧ ∀ (j : Nat) (y : Sg), j < k → s.segs[j]? = some y → y.seq ≠ x.seq) (fun k => i - k) 0 ⟨Nat.zero_le _, fun j y h => absurd h (Nat.not_lt_zero _)⟩ ?_ ?_
            · refine Weak.calc [(0, 0), (513, 1)] (by decide) ?_ ?_ <;> simp [tk_B, tk_Bools, tk_Blks, tk_Segs, AlL_append, renL_append, okL, okH, rowIs, okV, okHV, rowVt, vtL, okF, okHF, rowFz, fzL, fzV, fzOne, nilLike, oldLike, rn, s_envOf, s_envOf0, s_heapOf, s_heapOf0, s_put, s_put0, s_put1, s_app0, s_app1, Al, AlL, ren, renL, al_B, al_Bools, al_Blks, al_Segs, ren_B, ren_Bools, ren_Blks, ren_Segs, fB, fBools, fBlks, fSegs]
            · rintro k ⟨hk, hne⟩
              by_cases hkl : k < i
              · obtain ⟨y, hy, f1, f0⟩ := lt_at (show k < s.segs.length by omega)
                obtain ⟨y0, y1⟩ := get_Segs (fr := fr) hy
                have f2 : (k : Int) < (i : Int) := by omega
                simp only [L2_chk, y0, y1, f0, f1, f2, SS, boxA, cellsOf, foffA, loadA, ldA, idxA, fldA, binA, binVal, isSh, intVal, lenA, slenA, pickA, storeA, setN, getN, fillA, extA, beqA, eqsA, eqL, isnilA, unA, unVal, convA, nilA, sconvA, b2sA, b2sOf, bytesOf, mmA, srcA, appA, sliceA, lohi, mkslA, envA, ↓reduceIte, Nat.reduceEqDiff, Nat.reduceAdd, Nat.reduceMul, reduceCtorEq, Nat.reduceLeDiff, fB, fBools, fBlks, fSegs, aBlk, aSg, aSt, stRow, List.drop_zero, List.take_succ_cons, List.take_zero, List.take_nil, Nat.mul_one, Nat.one_mul, List.cons_append, List.nil_append]
                split
                · rename_i hxy
                  refine ⟨by rfl, Ends.data (.inr rfl) (by rw [errN_f (rchk_seg hx hf' (.inr (.inr ⟨k, y, hkl, hy, hxy⟩)))]; simp [resL, resOne, tupOf, getN, s_envOf, s_envOf0, s_heapOf, s_heapOf0, s_put1, s_app0, s_app1]) trivial⟩
                · rename_i hxy
                  refine ⟨by rfl, famC_next (k + 1) (by omega) ⟨by omega, fun j z hj hz => ?_⟩ ?_⟩
                  · by_cases e : j = k
                    · subst e; rw [hy] at hz; cases hz; exact hxy
                    · exact hne j z (by omega) hz
                  · refine Weak.calc [(0, 0), (1, 1)] (by decide) ?_ ?_ <;> simp [tk_B, tk_Bools, tk_Blks, tk_Segs, AlL_append, renL_append, okL, okH, rowIs, okV, okHV, rowVt, vtL, okF, okHF, rowFz, fzL, fzV, fzOne, nilLike, oldLike, rn, s_envOf, s_envOf0, s_heapOf, s_heapOf0, s_put, s_put0, s_put1, s_app0, s_app1, Al, AlL, ren, renL, al_B, al_Bools, al_Blks, al_Segs, ren_B, ren_Bools, ren_Blks, ren_Segs, fB, fBools, fBlks, fSegs, wrap64 (x := (k : Int) + 1) (by omega)]
              · have f2 : ¬ ((k : Int) < (i : Int)) := by omega
                simp only [L2_chk, f2, SS, boxA, cellsOf, foffA, loadA, ldA, idxA, fldA, binA, binVal, isSh, intVal, lenA, slenA, pickA, storeA, setN, getN, fillA, extA, beqA, eqsA, eqL, isnilA, unA, unVal, convA, nilA, sconvA, b2sA, b2sOf, bytesOf, mmA, srcA, appA, sliceA, lohi, mkslA, envA, ↓reduceIte, Nat.reduceEqDiff, Nat.reduceAdd, Nat.reduceMul, reduceCtorEq, Nat.reduceLeDiff, fB, fBools, fBlks, fSegs, aBlk, aSg, aSt, stRow, List.drop_zero, List.take_succ_cons, List.take_zero, List.take_nil, Nat.mul_one, Nat.one_mul, List.cons_append, List.nil_append]
                refine famC_next (i + 1) (by omega) ⟨by omega, fun j hj => ?_⟩ ?_
                · by_cases e : j = i
                  · subst e
                    rw [hs, hf', hq]
                    simp
                    refine ⟨by omega, fun y hy => ?_⟩
                    obtain ⟨q, hq1, rfl⟩ := List.mem_iff_getElem.1 hy
                    have hq2 : q < j := by simp at hq1; omega
                    refine hne q _ (by omega) ?_
                    rw [List.getElem?_eq_getElem (by omega), List.getElem_take]
                  · exact hok j (by omega)
                · refine Weak.calc [(0, 0)] (by decide) ?_ ?_ <;> simp [tk_B, tk_Bools, tk_Blks, tk_Segs, AlL_append, renL_append, okL, okH, rowIs, okV, okHV, rowVt, vtL, okF, okHF, rowFz, fzL, fzV, fzOne, nilLike, oldLike, rn, s_envOf, s_envOf0, s_heapOf, s_heapOf0, s_put, s_put0, s_put1, s_app0, s_app1, Al, AlL, ren, renL, al_B, al_Bools, al_Blks, al_Segs, ren_B, ren_Bools, ren_Blks, ren_Segs, fB, fBools, fBlks, fSegs, wrap64 (x := (i : Int) + 1) (by omega)]
    · have e1 : ¬ ((i : Int) < (s.segs.length : Int)) := by omega
      simp only [L1_chk, e1, SS, boxA, cellsOf, foffA, loadA, ldA, idxA, fldA, binA, binVal, isSh, intVal, lenA, slenA, pickA, storeA, setN, getN, fillA, extA, beqA, eqsA, eqL, isnilA, unA, unVal, convA, nilA, sconvA, b2sA, b2sOf, bytesOf, mmA, srcA, appA, sliceA, lohi, mkslA, envA, ↓reduceIte, Nat.reduceEqDiff, Nat.reduceAdd, Nat.reduceMul, reduceCtorEq, Nat.reduceLeDiff, fB, fBools, fBlks, fSegs, aBlk, aSg, aSt, stRow, List.drop_zero, List.take_succ_cons, List.take_zero, List.take_nil, Nat.mul_one, Nat.one_mul, List.cons_append, List.nil_append]
      have hall : (List.range s.segs.length).all (segOkAt s) = true := by
        rw [List.all_eq_true]
        intro j hj
        exact hok j (by have := List.mem_range.1 hj; omega)
      refine AWc.family (L3_chk fr s) (fun k => k ≤ s.opn.length ∧ ∀ (j : Nat) (b : Blk), j < k → s.opn[j]? = some b → mayB' b = true) (fun k => s.opn.length - k) 0 ⟨Nat.zero_le _, fun j y h => absurd h (Nat.not_lt_zero _)⟩ ?_ ?_
      · refine Weak.calc [(0, 0)] (by decide) ?_ ?_ <;> simp [tk_B, tk_Bools, tk_Blks, tk_Segs, AlL_append, renL_append, okL, okH, rowIs, okV, okHV, rowVt, vtL, okF, okHF, rowFz, fzL, fzV, fzOne, nilLike, oldLike, rn, s_envOf, s_envOf0, s_heapOf, s_heapOf0, s_put, s_put0, s_put1, s_app0, s_app1, Al, AlL, ren, renL, al_B, al_Bools, al_Blks, al_Segs, ren_B, ren_Bools, ren_Blks, ren_Segs, fB, fBools, fBlks, fSegs]
      · rintro k ⟨hk, hm⟩
        by_cases hkl : k < s.opn.length
        · obtain ⟨b, hb, f1, f0⟩ := lt_at hkl
          obtain ⟨b0, b1, b2, b3⟩ := get_Blks3 (fr := fr) hb
          simp only [L3_chk, b0, b1, b2, f0, f1, SS, boxA, cellsOf, foffA, loadA, ldA, idxA, fldA, binA, binVal, isSh, intVal, lenA, slenA, pickA, storeA, setN, getN, fillA, extA, beqA, eqsA, eqL, isnilA, unA, unVal, convA, nilA, sconvA, b2sA, b2sOf, bytesOf, mmA, srcA, appA, sliceA, lohi, mkslA, envA, ↓reduceIte, Nat.reduceEqDiff, Nat.reduceAdd, Nat.reduceMul, reduceCtorEq, Nat.reduceLeDiff, fB, fBools, fBlks, fSegs, aBlk, aSg, aSt, stRow, List.drop_zero, List.take_succ_cons, List.take_zero, List.take_nil, Nat.mul_one, Nat.one_mul, List.cons_append, List.nil_append]
          refine ⟨_, rmay_spec fr b _, ?_⟩
          simp only [SS, boxA, cellsOf, foffA, loadA, ldA, idxA, fldA, binA, binVal, isSh, intVal, lenA, slenA, pickA, storeA, setN, getN, fillA, extA, beqA, eqsA, eqL, isnilA, unA, unVal, convA, nilA, sconvA, b2sA, b2sOf, bytesOf, mmA, srcA, appA, sliceA, lohi, mkslA, envA, ↓reduceIte, Nat.reduceEqDiff, Nat.reduceAdd, Nat.reduceMul, reduceCtorEq, Nat.reduceLeDiff, fB, fBools, fBlks, fSegs, aBlk, aSg, aSt, stRow, List.drop_zero, List.take_succ_cons, List.take_zero, List.take_nil, Nat.mul_one, Nat.one_mul, List.cons_append, List.nil_append]
          split
          · rename_i hmy
            exact Ends.data (.inr rfl) (by rw [errN_f (rchk_opn hb (by simpa using hmy))]; simp [resL, resOne, tupOf, getN, s_envOf, s_envOf0, s_heapOf, s_heapOf0, s_put1, s_app0, s_app1]) trivial
          · rename_i hmy
            refine famC_next (k + 1) (by omega) ⟨by omega, fun j z hj hz => ?_⟩ ?_
            · by_cases e : j = k
              · subst e; rw [hb] at hz; cases hz; simpa using hmy
              · exact hm j z (by omega) hz
            · refine Weak.calc [(0, 0)] (by decide) ?_ ?_ <;> simp [tk_B, tk_Bools, tk_Blks, tk_Segs, AlL_append, renL_append, okL, okH, rowIs, okV, okHV, rowVt, vtL, okF, okHF, rowFz, fzL, fzV, fzOne, nilLike, oldLike, rn, s_envOf, s_envOf0, s_heapOf, s_heapOf0, s_put, s_put0, s_put1, s_app0, s_app1, Al, AlL, ren, renL, al_B, al_Bools, al_Blks, al_Segs, ren_B, ren_Bools, ren_Blks, ren_Segs, fB, fBools, fBlks, fSegs, wrap64 (x := (k : Int) + 1) (by omega)]
        · have f1 : ¬ ((k : Int) < (s.opn.length : Int)) := by omega
          simp only [L3_chk, f1, SS, boxA, cellsOf, foffA, loadA, ldA, idxA, fldA, binA, binVal, isSh, intVal, lenA, slenA, pickA, storeA, setN, getN, fillA, extA, beqA, eqsA, eqL, isnilA, unA, unVal, convA, nilA, sconvA, b2sA, b2sOf, bytesOf, mmA, srcA, appA, sliceA, lohi, mkslA, envA, ↓reduceIte, Nat.reduceEqDiff, Nat.reduceAdd, Nat.reduceMul, reduceCtorEq, Nat.reduceLeDiff, fB, fBools, fBlks, fSegs, aBlk, aSg, aSt, stRow, List.drop_zero, List.take_succ_cons, List.take_zero, List.take_nil, Nat.mul_one, Nat.one_mul, List.cons_append, List.nil_append]
          refine Ends.data (.inr rfl) ?_ trivial
          rw [errN_t]
          · simp [resL, resOne, tupOf, getN, s_envOf, s_envOf0, s_heapOf, s_heapOf0, s_put1, s_app0, s_app1]
          · simp only [rchk, hall, Bool.and_true, Bool.and_eq_true]
            refine ⟨by simp [rHead]; omega, ?_⟩
            rw [List.all_eq_true]
            intro b hb
            obtain ⟨j, hj, rfl⟩ := List.mem_iff_getElem.1 hb
            exact hm j _ (by omega) (List.getElem?_eq_getElem hj)
/-- of a slot: may it be asked for -/
def usedE (s : St) (slot : Int) : Int := if rchk s = true then (if 0 ≤ slot ∧ slot < s.segs.length then (match s.segs[slot.toNat]? with | some x => if freeB' x = true then 71 else 0 | none => 71) else 71) else 9
theorem used_spec (fr : Bool) (s : St) (slot : Int) (nb : Nat) : ASound Try.prog 58 [aSt fr s, .v (.int .i64 slot)] nb (.ret (.v (.int .i64 (usedE s slot))) []) := by
  refine ok_58.sound (by simp) ⟨al_aSt s, trivial, trivial⟩ ?_
  simp only [ac_58, SS, boxA, cellsOf, foffA, loadA, ldA, idxA, fldA, binA, binVal, isSh, intVal, lenA, slenA, pickA, storeA, setN, getN, fillA, extA, beqA, eqsA, eqL, isnilA, unA, unVal, convA, nilA, sconvA, b2sA, b2sOf, bytesOf, mmA, srcA, appA, sliceA, lohi, mkslA, envA, ↓reduceIte, Nat.reduceEqDiff, Nat.reduceAdd, Nat.reduceMul, reduceCtorEq, Nat.reduceLeDiff, fB, fBools, fBlks, fSegs, aBlk, aSg, aSt, stRow, List.drop_zero, List.take_succ_cons, List.take_zero, List.take_nil, Nat.mul_one, Nat.one_mul, List.cons_append, List.nil_append]
  refine ⟨_, rCheck_spec fr s _, ?_⟩
  simp only [SS, boxA, cellsOf, foffA, loadA, ldA, idxA, fldA, binA, binVal, isSh, intVal, lenA, slenA, pickA, storeA, setN, getN, fillA, extA, beqA, eqsA, eqL, isnilA, unA, unVal, convA, nilA, sconvA, b2sA, b2sOf, bytesOf, mmA, srcA, appA, sliceA, lohi, mkslA, envA, ↓reduceIte, Nat.reduceEqDiff, Nat.reduceAdd, Nat.reduceMul, reduceCtorEq, Nat.reduceLeDiff, fB, fBools, fBlks, fSegs, aBlk, aSg, aSt, stRow, List.drop_zero, List.take_succ_cons, List.take_zero, List.take_nil, Nat.mul_one, Nat.one_mul, List.cons_append, List.nil_append]
  cases hq : rchk s with
  | false =>
    simp only [errN_f, SS, boxA, cellsOf, foffA, loadA, ldA, idxA, fldA, binA, binVal, isSh, intVal, lenA, slenA, pickA, storeA, setN, getN, fillA, extA, beqA, eqsA, eqL, isnilA, unA, unVal, convA, nilA, sconvA, b2sA, b2sOf, bytesOf, mmA, srcA, appA, sliceA, lohi, mkslA, envA, ↓reduceIte, Nat.reduceEqDiff, Nat.reduceAdd, Nat.reduceMul, reduceCtorEq, Nat.reduceLeDiff, fB, fBools, fBlks, fSegs, aBlk, aSg, aSt, stRow, List.drop_zero, List.take_succ_cons, List.take_zero, List.take_nil, Nat.mul_one, Nat.one_mul, List.cons_append, List.nil_append]
    exact Ends.data (.inr rfl) (by simp [resL, resOne, tupOf, getN, s_envOf, s_envOf0, s_heapOf, s_heapOf0, s_put1, s_app0, s_app1, usedE, hq]) trivial
  | true =>
    simp only [errN_t, SS, boxA, cellsOf, foffA, loadA, ldA, idxA, fldA, binA, binVal, isSh, intVal, lenA, slenA, pickA, storeA, setN, getN, fillA, extA, beqA, eqsA, eqL, isnilA, unA, unVal, convA, nilA, sconvA, b2sA, b2sOf, bytesOf, mmA, srcA, appA, sliceA, lohi, mkslA, envA, ↓reduceIte, Nat.reduceEqDiff, Nat.reduceAdd, Nat.reduceMul, reduceCtorEq, Nat.reduceLeDiff, fB, fBools, fBlks, fSegs, aBlk, aSg, aSt, stRow, List.drop_zero, List.take_succ_cons, List.take_zero, List.take_nil, Nat.mul_one, Nat.one_mul, List.cons_append, List.nil_append]
    by_cases h1 : slot < 0
    · have h2 : ¬ (0 ≤ slot ∧ slot < s.segs.length) := by omega
      simp only [h1, SS, boxA, cellsOf, foffA, loadA, ldA, idxA, fldA, binA, binVal, isSh, intVal, lenA, slenA, pickA, storeA, setN, getN, fillA, extA, beqA, eqsA, eqL, isnilA, unA, unVal, convA, nilA, sconvA, b2sA, b2sOf, bytesOf, mmA, srcA, appA, sliceA, lohi, mkslA, envA, ↓reduceIte, Nat.reduceEqDiff, Nat.reduceAdd, Nat.reduceMul, reduceCtorEq, Nat.reduceLeDiff, fB, fBools, fBlks, fSegs, aBlk, aSg, aSt, stRow, List.drop_zero, List.take_succ_cons, List.take_zero, List.take_nil, Nat.mul_one, Nat.one_mul, List.cons_append, List.nil_append]
      exact Ends.data (.inr rfl) (by simp only [usedE, hq, h2, if_true, if_false]; simp [resL, resOne, tupOf, getN, s_envOf, s_envOf0, s_heapOf, s_heapOf0, s_put1, s_app0, s_app1]) trivial
    · by_cases h3 : slot < s.segs.length
      · obtain ⟨k, rfl⟩ : ∃ k : Nat, slot = k := ⟨slot.toNat, by omega⟩
        obtain ⟨x, hx, e1, e0⟩ := lt_at (show k < s.segs.length by omega)
        obtain ⟨g0, g1⟩ := get_Segs (fr := fr) hx
        have h4 : ¬ ((s.segs.length : Int) ≤ (k : Int)) := by omega
        simp only [h1, h4, e1, e0, g0, g1, SS, boxA, cellsOf, foffA, loadA, ldA, idxA, fldA, binA, binVal, isSh, intVal, lenA, slenA, pickA, storeA, setN, getN, fillA, extA, beqA, eqsA, eqL, isnilA, unA, unVal, convA, nilA, sconvA, b2sA, b2sOf, bytesOf, mmA, srcA, appA, sliceA, lohi, mkslA, envA, ↓reduceIte, Nat.reduceEqDiff, Nat.reduceAdd, Nat.reduceMul, reduceCtorEq, Nat.reduceLeDiff, fB, fBools, fBlks, fSegs, aBlk, aSg, aSt, stRow, List.drop_zero, List.take_succ_cons, List.take_zero, List.take_nil, Nat.mul_one, Nat.one_mul, List.cons_append, List.nil_append]
        refine ⟨_, rfree_spec fr x _, ?_⟩
        simp only [SS, boxA, cellsOf, foffA, loadA, ldA, idxA, fldA, binA, binVal, isSh, intVal, lenA, slenA, pickA, storeA, setN, getN, fillA, extA, beqA, eqsA, eqL, isnilA, unA, unVal, convA, nilA, sconvA, b2sA, b2sOf, bytesOf, mmA, srcA, appA, sliceA, lohi, mkslA, envA, ↓reduceIte, Nat.reduceEqDiff, Nat.reduceAdd, Nat.reduceMul, reduceCtorEq, Nat.reduceLeDiff, fB, fBools, fBlks, fSegs, aBlk, aSg, aSt, stRow, List.drop_zero, List.take_succ_cons, List.take_zero, List.take_nil, Nat.mul_one, Nat.one_mul, List.cons_append, List.nil_append]
        split
        · rename_i hf
          exact Ends.data (.inr rfl) (by simp [resL, resOne, tupOf, getN, s_envOf, s_envOf0, s_heapOf, s_heapOf0, s_put1, s_app0, s_app1, usedE, hq, h3, hx, hf]) trivial
        · rename_i hf
          exact Ends.data (.inr rfl) (by simp [resL, resOne, tupOf, getN, s_envOf, s_envOf0, s_heapOf, s_heapOf0, s_put1, s_app0, s_app1, usedE, hq, h3, hx, hf]) trivial
      · have h4 : ((s.segs.length : Int) ≤ slot) := by omega
        have h2 : ¬ (0 ≤ slot ∧ slot < s.segs.length) := by omega
        simp only [h1, h4, SS, boxA, cellsOf, foffA, loadA, ldA, idxA, fldA, binA, binVal, isSh, intVal, lenA, slenA, pickA, storeA, setN, getN, fillA, extA, beqA, eqsA, eqL, isnilA, unA, unVal, convA, nilA, sconvA, b2sA, b2sOf, bytesOf, mmA, srcA, appA, sliceA, lohi, mkslA, envA, ↓reduceIte, Nat.reduceEqDiff, Nat.reduceAdd, Nat.reduceMul, reduceCtorEq, Nat.reduceLeDiff, fB, fBools, fBlks, fSegs, aBlk, aSg, aSt, stRow, List.drop_zero, List.take_succ_cons, List.take_zero, List.take_nil, Nat.mul_one, Nat.one_mul, List.cons_append, List.nil_append]
        exact Ends.data (.inr rfl) (by simp only [usedE, hq, h2, if_true, if_false]; simp [resL, resOne, tupOf, getN, s_envOf, s_envOf0, s_heapOf, s_heapOf0, s_put1, s_app0, s_app1]) trivial
end Go.Proofs.Ytfoeddmbhmfjcaa
