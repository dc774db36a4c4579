/- Merged texts: V0, V1, V2, C0, F5, R0, F6, F7, F8, F9. -/
import Derived.Test.YtfoeddmbhmfjcaaXA
set_option linter.unusedSimpArgs false
set_option linter.unusedVariables false
/- log.versions: what the last block of each kind is. -/
namespace Go.Proofs.Ytfoeddmbhmfjcaa
open Go.RowKit
structure Ver where
  seq : Int
  at_ : Int
  data : List Int
  count : Nat
def Ver.zero : Ver := ⟨0, 0, [], 0⟩
abbrev Kd := Int × Int
def kindOf (b : Blk) : Kd := (b.own, b.idx)
def bump (seq : Int) (i : Nat) (b : Blk) (v : Ver) : Ver := if v.seq ≤ seq then ⟨seq, i, b.data, v.count + 1⟩ else ⟨v.seq, v.at_, v.data, v.count + 1⟩
structure Vers where
  keys : List Kd
  ver : Kd → Ver
def keyAdd (l : List Kd) (k : Kd) : List Kd := if k ∈ l then l else l ++ [k]
def noteStep (seq : Int) (i : Nat) (b : Blk) (q : Vers) : Vers := ⟨keyAdd q.keys (kindOf b), fun k => if k = kindOf b then bump seq i b (q.ver k) else q.ver k⟩
def noteN (seq : Int) (l : List Blk) (q : Vers) : Nat → Vers
  | 0 => q
  | k + 1 => match l[k]? with | some b => noteStep seq k b (noteN seq l q k) | none => noteN seq l q k
def vers0 : Vers := ⟨[], fun _ => Ver.zero⟩
def segsN (s : St) : Nat → Vers
  | 0 => vers0
  | k + 1 => match s.segs[k]? with | some x => noteN x.seq x.blocks (segsN s k) x.blocks.length | none => segsN s k
def versOf (s : St) : Vers := noteN s.next s.opn (segsN s s.segs.length) s.opn.length
theorem noteN_succ {seq : Int} {l : List Blk} {q : Vers} {k : Nat} {b : Blk} (h : l[k]? = some b) : noteN seq l q (k + 1) = noteStep seq k b (noteN seq l q k) := by simp [noteN, h]
theorem segsN_succ {s : St} {k : Nat} {x : Sg} (h : s.segs[k]? = some x) : segsN s (k + 1) = noteN x.seq x.blocks (segsN s k) x.blocks.length := by simp [segsN, h]
/-- at most n blocks of a kind are counted -/
def CountLe (q : Vers) (n : Nat) : Prop := ∀ k, (q.ver k).count ≤ n
theorem countLe_noteN {seq : Int} {l : List Blk} {q : Vers} {n : Nat} (h : CountLe q n) : ∀ k, CountLe (noteN seq l q k) (n + k)
  | 0 => h
  | k + 1 => by
    have ih := countLe_noteN (seq := seq) (l := l) h k
    intro j
    have hj := ih j
    simp only [noteN]
    split
    · simp only [noteStep, bump]
      split
      · split <;> simp <;> omega
      · omega
    · omega
theorem countLe_segsN {s : St} (h : ∀ x ∈ s.segs, x.blocks.length ≤ 8) : ∀ k, CountLe (segsN s k) (8 * k)
  | 0 => fun _ => Nat.le_refl _
  | k + 1 => by
    have ih := countLe_segsN h k
    simp only [segsN]
    split
    · rename_i x hx
      have := h x (List.mem_of_getElem? hx)
      intro j
      have := countLe_noteN (seq := x.seq) (l := x.blocks) ih x.blocks.length j
      omega
    · intro j; have := ih j; omega
theorem mem_keyAdd {l : List Kd} {k j : Kd} : j ∈ keyAdd l k ↔ j ∈ l ∨ j = k := by
  unfold keyAdd
  split
  · exact ⟨.inl, fun h => h.elim id (fun e => e ▸ ‹_›)⟩
  · simp
theorem mGet_keys (f : Kd → Value) (l : List Kd) (k : Kd) : mGet (l.map fun k => (k, f k)) k = if k ∈ l then some (f k) else none := by
  induction l with
  | nil => simp [mGet]
  | cons a l ih =>
    unfold mGet at ih ⊢
    rw [List.map_cons, List.find?_cons]
    by_cases h : a = k
    · subst h; simp
    · simp only [h, decide_false, ih, List.mem_cons, Ne.symm h, false_or]
theorem mPut_keys (f f' : Kd → Value) (l : List Kd) (k : Kd) (v : Value) (hk : k ∉ l) (h1 : ∀ j, j ∈ l → f' j = f j) (h2 : f' k = v) : mPut (l.map fun k => (k, f k)) k v = (keyAdd l k).map fun k => (k, f' k) := by
  unfold mPut keyAdd
  rw [if_neg hk, if_neg (by simpa using hk), List.map_append]
  simp only [List.map_cons, List.map_nil, h2]
  congr 1
  exact List.map_congr_left fun j hj => by rw [h1 j hj]
def ptr (g : Nat) : Value := .pointer (some ⟨g, 0, none⟩)
/-- the map vb, its records from B on -/
structure VersM (w : World) (B vb : Nat) (P : Nat → Prop) (ks : List Kd) (f : Kd → Ver) (pt : Kd → Nat) : Prop where
  map : HasMap enc2 w vb (ks.map fun k => (k, ptr (pt k)))
  lo : ∀ k, k ∈ ks → B ≤ pt k ∧ pt k < w.heap.size
  inj : ∀ k, k ∈ ks → ∀ j, j ∈ ks → pt k = pt j → k = j
  at_ : ∀ k, k ∈ ks → ∃ A c, w.heap[pt k]? = some (.cells #[.int .i64 (f k).seq, .int .i64 (f k).at_, .slice A (f k).data.length c, .int .i64 (f k).count] 111 (0, 0)) ∧ RdS (Ty.int .u8) 1 w P A c (f k).data
  out : ∀ k, k ∉ ks → f k = Ver.zero
theorem VersM.below {w w1 : World} {B vb : Nat} {P : Nat → Prop} {ks : List Kd} {f : Kd → Ver} {pt : Kd → Nat} (h : VersM w B vb P ks f pt) (hb : Below w.heap.size w w1) : VersM w1 B vb P ks f pt :=
  ⟨h.map.below hb, fun k hk => ⟨(h.lo k hk).1, Nat.lt_of_lt_of_le (h.lo k hk).2 hb.size⟩, h.inj, fun k hk => by
    obtain ⟨A, c, h1, h2⟩ := h.at_ k hk
    exact ⟨A, c, heap_below hb h1, h2.below hb⟩, h.out⟩
theorem versM_start (w : World) (B : Nat) (P : Nat → Prop) (pt : Kd → Nat) {vb : Nat} (h : HasMap enc2 w vb []) : VersM w B vb P [] (fun _ => Ver.zero) pt :=
  ⟨h, fun _ h => by simp at h, fun _ h => by simp at h, fun _ h => by simp at h, fun _ _ => rfl⟩
/-- a kind that was not there: its record is block n -/
theorem VersM.add {w w1 : World} {B vb n : Nat} {P : Nat → Prop} {ks : List Kd} {f : Kd → Ver} {pt : Kd → Nat} (h : VersM w B vb P ks f pt) {k : Kd} (hk : k ∉ ks) (hn : w.heap.size ≤ n) (hB : B ≤ n) (hv : vb < B) (hP : ∀ b, P b → b < vb)
    (hm : HasMap enc2 w1 vb (mPut (ks.map fun k => (k, ptr (pt k))) k (ptr n))) (hnew : w1.heap[n]? = some (.cells #[.int .i64 0, .int .i64 0, .slice none 0 0, .int .i64 0] 111 (0, 0)))
    (hold : ∀ b, b < w.heap.size → b ≠ vb → w1.heap[b]? = w.heap[b]?) : VersM w1 B vb P (keyAdd ks k) f (fun j => if j = k then n else pt j) := by
  have ha : ∀ j, j ∈ ks → (if j = k then n else pt j) = pt j := fun j hj => if_neg (by rintro rfl; exact hk hj)
  have hs : n < w1.heap.size := lt_of_heap hnew
  refine ⟨?_, fun j hj => ?_, fun i hi j hj e => ?_, fun j hj => ?_, fun j hj => h.out j (fun hj2 => hj (mem_keyAdd.2 (.inl hj2)))⟩
  · rw [← mPut_keys (fun j => ptr (pt j)) (fun j => ptr (if j = k then n else pt j)) ks k (ptr n) hk (fun j hj => by simp only [ha j hj]) (by simp)]
    exact hm
  · rcases mem_keyAdd.1 hj with hj | rfl
    · simp only [ha j hj]; exact ⟨(h.lo j hj).1, by have := (h.lo j hj).2; omega⟩
    · simp only [if_true]; exact ⟨hB, hs⟩
  · rcases mem_keyAdd.1 hi with hi2 | hi2 <;> rcases mem_keyAdd.1 hj with hj2 | hj2
    · simp only [ha i hi2, ha j hj2] at e; exact h.inj i hi2 j hj2 e
    · simp only [ha i hi2, if_pos hj2] at e; have := (h.lo i hi2).2; omega
    · simp only [ha j hj2, if_pos hi2] at e; have := (h.lo j hj2).2; omega
    · rw [hi2, hj2]
  · rcases mem_keyAdd.1 hj with hj | rfl
    · simp only [ha j hj]
      obtain ⟨A, c, h1, h2⟩ := h.at_ j hj
      have hl := h.lo j hj
      exact ⟨A, c, (hold _ hl.2 (by omega)).trans h1, h2.1, h2.2.1, Ty.C_frame (fun b hb hb2 => hold b hb2 (by have := hP b hb; omega)) h2.2.2⟩
    · simp only [if_true, h.out j hk]
      exact ⟨none, 0, hnew, Nat.le_refl _, Nat.zero_le _, Ty.C_nil⟩
/-- the record of k is written -/
theorem VersM.put {w w1 : World} {B vb : Nat} {P : Nat → Prop} {ks : List Kd} {f : Kd → Ver} {pt : Kd → Nat} (h : VersM w B vb P ks f pt) {k : Kd} (hk : k ∈ ks) (hv : vb < B) (hP : ∀ b, P b → b < vb) {v : Ver} {A : Option Addr} {c : Nat}
    (hnew : w1.heap[pt k]? = some (.cells #[.int .i64 v.seq, .int .i64 v.at_, .slice A v.data.length c, .int .i64 v.count] 111 (0, 0))) (hd : RdS (Ty.int .u8) 1 w P A c v.data)
    (hold : ∀ b, b < w.heap.size → b ≠ pt k → w1.heap[b]? = w.heap[b]?) (hs : w.heap.size ≤ w1.heap.size) : VersM w1 B vb P ks (fun j => if j = k then v else f j) pt := by
  have hl := h.lo k hk
  refine ⟨h.map.frame (hold _ h.map.lt (by omega)), fun j hj => ⟨(h.lo j hj).1, by have := (h.lo j hj).2; omega⟩, h.inj, fun j hj => ?_, fun j hj => ?_⟩
  · by_cases e : j = k
    · subst e
      simp only [if_true]
      exact ⟨A, c, hnew, hd.1, hd.2.1, Ty.C_frame (fun b hb hb2 => hold b hb2 (by have := hP b hb; omega)) hd.2.2⟩
    · simp only [if_neg e]
      obtain ⟨A, c, h1, h2⟩ := h.at_ j hj
      exact ⟨A, c, (hold _ (h.lo j hj).2 (fun e2 => e (h.inj j hj k hk e2))).trans h1, h2.1, h2.2.1, Ty.C_frame (fun b hb hb2 => hold b hb2 (by have := hP b hb; omega)) h2.2.2⟩
  · simp only [if_neg (show ¬ j = k from fun e => hj (by rw [e]; exact hk))]; exact h.out j hj
theorem kind_eq (p q : Int × Int) (w : World) : (Op.equal 109 (enc2 p) (enc2 q)).run Try.prog w = .ok (decide (p = q)) w := by
  obtain ⟨a, b⟩ := p
  obtain ⟨c, d⟩ := q
  unfold Op.equal Op.maxDepth enc2
  rw [run_equalIn_struct w 9999 109 _ _ (by kernel_rfl) (by kernel_rfl)]
  have hf : Try.prog.fieldsOf 109 = #[⟨"owner", 3, 0, false, "", "undercroft/log", 0⟩, ⟨"index", 3, 1, false, "", "undercroft/log", 8⟩] := by kernel_rfl
  have p0 : ∀ x y w, (part 3 #[Value.int .i64 x, .int .i64 y] 0).run Try.prog w = .ok (.int .i64 x) w := fun x y w => by kernel_rfl
  have p1 : ∀ x y w, (part 3 #[Value.int .i64 x, .int .i64 y] 1).run Try.prog w = .ok (.int .i64 y) w := fun x y w => by kernel_rfl
  rw [hf]
  simp only [Op.eqFields]
  by_cases h : a = c
  · subst h
    by_cases h2 : b = d
    · subst h2; simp [Sem.run_bind, p0, p1, run_equalIn_int w _ _ _ _ _ _ Try.underlying3]
    · simp [Sem.run_bind, p0, p1, run_equalIn_int w _ _ _ _ _ _ Try.underlying3, h2]
  · simp [Sem.run_bind, p0, p1, run_equalIn_int w _ _ _ _ _ _ Try.underlying3, h]
theorem kind_check (k : Int × Int) (b : Bool) (w : World) : (Instr.checkKey b 10000 109 (enc2 k)).run Try.prog w = .ok () w := by
  kernel_rfl
def kKind : MapKey Try.prog 109 (Int × Int) := pairKey Try.underlying109 (fun a b => rfl) kind_eq kind_check
theorem zeroPtr (w : World) : (zeroValue 107).run Try.prog w = .ok (.pointer none) w := by kernel_rfl
end Go.Proofs.Ytfoeddmbhmfjcaa
/- log.versions$1 (note) and log.versions. -/
namespace Go.Proofs.Ytfoeddmbhmfjcaa
open Go.RowKit
theorem RdS.belowAt {α : Type} {T : Ty α} {b : Nat} {w w1 : World} {P : Nat → Prop} {A : Option Addr} {c : Nat} {xs : List α} {B : Nat} (h : RdS T b w P A c xs) (hP : ∀ k, P k → k < B) (hb : Below B w w1) : RdS T b w1 P A c xs :=
  ⟨h.1, h.2.1, Ty.C_frame (fun k hk _ => hb.block k (hP k hk)) h.2.2⟩
theorem lookup_vers {w : World} {B vb : Nat} {P : Nat → Prop} {ks : List Kd} {f : Kd → Ver} {pt : Kd → Nat} (h : VersM w B vb P ks f pt) (a b : Int) :
    (Instr.lookup 105 (.map (some vb)) (.agg #[.int .i64 a, .int .i64 b]) false).run Try.prog w = .ok (.pointer (if (a, b) ∈ ks then some ⟨pt (a, b), 0, none⟩ else none)) w := by
  have := hasMap_get kKind Try.underlying105 h.map (a, b) (zeroPtr w)
  rw [mGet_keys (fun k => ptr (pt k))] at this
  refine Eq.trans this ?_
  split <;> rfl
theorem noteStep_ver (seq : Int) (k : Nat) (x : Blk) (q : Vers) : noteStep seq k x q = ⟨keyAdd q.keys (kindOf x), fun j => if j = kindOf x then bump seq k x (q.ver (kindOf x)) else q.ver j⟩ := by
  unfold noteStep
  congr 1
  funext j
  split <;> simp_all
set_option maxRecDepth 100000 in
set_option maxHeartbeats 1000000 in
theorem note_calls {P : Nat → Prop} {B ob vb : Nat} (seq : Int) (A : Option Addr) (c : Nat) (l : List Blk) (w : World) (q : Vers) (N : Nat) (hN : CountLe q N) (hNl : N + l.length < 4611686018427387904) (h : RdS tBlk 40 w P A c l) (hP : ∀ k, P k → k < vb)
    (ho : w.heap[ob]? = some (.cells #[.map (some vb)] 105 (0, 0))) (hov : vb < ob) (hob : ob < B) (hBs : B ≤ w.heap.size) (pt : Kd → Nat) (hm : VersM w B vb P q.keys q.ver pt) :
    Calls Try.prog 79 #[.int .i64 seq, .slice A l.length c, .pointer (some ⟨ob, 0, none⟩)] w fun e w' => e = .returned (.tuple #[]) ∧ (∃ pt', VersM w' B vb P (noteN seq l q l.length).keys (noteN seq l q l.length).ver pt') ∧
      Below vb w w' ∧ ∀ k, k < B → k ≠ vb → k < w.heap.size → w'.heap[k]? = w.heap[k]? := by
  have hl : l.length ≤ 9223372036854775807 := by have := h.2.1; unfold reachB at this; omega
  have H := Lib.hid h
  have HM := Lib.hid hm
  clear h hm
  go_enter Try.func79, Try.ntmps79
  go_wp2
  go_loopg [11] l.length (fun g i wr => ∃ k : Nat, k ≤ l.length ∧ g = l.length - k ∧ i = .int .i64 k ∧ Hid (∃ pt', VersM wr B vb P (noteN seq l q k).keys (noteN seq l q k).ver pt') ∧ Hid (Below vb w wr) ∧ Hid (∀ k, k < B → k ≠ vb → k < w.heap.size → wr.heap[k]? = w.heap[k]?))
  case atStart => exact ⟨0, Nat.zero_le _, rfl, rfl, ⟨pt, HM.out⟩, Below.refl _ _, fun _ _ _ _ => rfl⟩
  case round =>
    obtain ⟨k, hk, rfl, rfl, hm, hb, hf⟩ := hrel
    by_cases hlt : k < l.length
    · obtain ⟨x, hx⟩ : ∃ x, l[k]? = some x := ⟨_, List.getElem?_eq_getElem hlt⟩
      have hs0 : w.heap.size ≤ wr.heap.size := hb.out.size
      have hvs : vb < w.heap.size := Nat.lt_trans hov (lt_of_heap ho)
      obtain ⟨b, off, Ad, cd, rfl, hPb, x0, x1, x2, hd, xw1, xw2⟩ := (H.out.belowAt hP hb.out).blkAt hx
      have HS := Lib.hid (noteN_succ (seq := seq) (q := q) hx)
      have hcn := countLe_noteN (seq := seq) (l := l) hN k (kindOf x)
      clear hx
      generalize noteN seq l q k = qk at hm HS hcn
      obtain ⟨ptk, hm⟩ := hm.out
      go_upto_region 4 with fail
      generalize hw0 : (wr.alloc (.cells #[.int .i64 x.own, .int .i64 x.idx, .slice Ad x.data.length cd] 57)).alloc (.cells #[.int .i64 x.own, .int .i64 x.idx] 109) = w0
      have hb0 : Hid (Below wr.heap.size wr w0) := by rw [← hw0]; exact ((Below.refl _ _).alloc (Nat.le_refl _) _).alloc (by simp) _
      have h6 : Hid (w0.heap[wr.heap.size]? = some (.cells #[.int .i64 x.own, .int .i64 x.idx, .slice Ad x.data.length cd] 57 (0, 0))) := by rw [← hw0]; exact heap_alloc (heap_alloc_new wr _) _
      have h7 : Hid (w0.heap[wr.heap.size + 1]? = some (.cells #[.int .i64 x.own, .int .i64 x.idx] 109 (0, 0))) := by rw [← hw0]; have := heap_alloc_new (wr.alloc (.cells #[.int .i64 x.own, .int .i64 x.idx, .slice Ad x.data.length cd] 57)) (.cells #[.int .i64 x.own, .int .i64 x.idx] 109); exact Lib.hid (by simpa using this)
      have hsz : w0.heap.size = wr.heap.size + 2 := by rw [← hw0]; simp
      clear hw0
      have M0 := Lib.hid (hm.below hb0.out)
      have B0 := Lib.hid ((hb.out.trans (hb0.out.mono (by omega))) : Below vb w w0)
      have F0 := Lib.hid (fun k (h1 : k < B) (h2 : k ≠ vb) (h3 : k < w.heap.size) => (hb0.out.block k (by omega)).trans (hf.out k h1 h2 h3))
      have D0 := Lib.hid (hd.below hb0.out)
      clear hm hb hf hb0 x0 x1 x2 hd
      have o0 := cell_of ((F0.out ob hob (by omega) (lt_of_heap ho)).trans ho) 0 rfl
      have hlk := lookup_vers M0.out x.own x.idx
      have k0 := cell_of h7.out 0 rfl
      have k1 := cell_of h7.out 1 rfl
      generalize hz : (if (x.own, x.idx) ∈ qk.keys then some (⟨ptk (x.own, x.idx), 0, none⟩ : Addr) else none) = z at hlk
      go_upto_if 25 with fail
      clear k0 k1
      have k0 := cell_of h7.out 0 rfl
      have k1 := cell_of h7.out 1 rfl
      go_cut [8] (fun s8 wx => ∃ pt', s8 = .pointer (some ⟨pt' (kindOf x), 0, none⟩) ∧ Hid (VersM wx B vb P (keyAdd qk.keys (kindOf x)) qk.ver pt') ∧ Hid (Below vb w wx) ∧ Hid (∀ k, k < B → k ≠ vb → k < w.heap.size → wx.heap[k]? = w.heap[k]?) ∧ Hid (RdS (Ty.int .u8) 1 wx P Ad cd x.data) ∧
        Hid (wx.heap[wr.heap.size]? = some (.cells #[.int .i64 x.own, .int .i64 x.idx, .slice Ad x.data.length cd] 57 (0, 0))) ∧ wr.heap.size + 2 ≤ wx.heap.size)
      case first =>
        by_cases hmem : (x.own, x.idx) ∈ qk.keys
        · rw [if_pos hmem] at hz
          subst hz
          go_wp2
          go_meet
          case rel => exact ⟨ptk, rfl, by rw [show keyAdd qk.keys (kindOf x) = qk.keys from if_pos hmem]; exact M0.out, B0.out, F0.out, D0.out, h6.out, by omega⟩
        · rw [if_neg hmem] at hz
          subst hz
          have MA := Lib.hid (M0.out.map.below (((Below.refl _ _).alloc (Nat.le_refl _) _) : Below w0.heap.size w0 (w0.alloc (.cells #[.int .i64 0, .int .i64 0, .slice none 0 0, .int .i64 0] 111))))
          have SA : (w0.alloc (.cells #[.int .i64 0, .int .i64 0, .slice none 0 0, .int .i64 0] 111)).heap.size = w0.heap.size + 1 := by simp
          have NA := Lib.hid (heap_alloc_new w0 (.cells #[.int .i64 0, .int .i64 0, .slice none 0 0, .int .i64 0] 111))
          have OA := Lib.hid (fun b (hb : b < w0.heap.size) => Below.heap_alloc w0 (.cells #[.int .i64 0, .int .i64 0, .slice none 0 0, .int .i64 0] 111) b hb)
          have oA := cell_of (heap_alloc ((F0.out ob hob (by omega) (lt_of_heap ho)).trans ho) (.cells #[.int .i64 0, .int .i64 0, .slice none 0 0, .int .i64 0] 111)) 0 rfl
          have BA := Lib.hid (B0.out.alloc (by omega) (.cells #[.int .i64 0, .int .i64 0, .slice none 0 0, .int .i64 0] 111))
          go_wp2_with (at_mapUpdate; refine wpList_mapPut kKind rfl _ _ _ 105 rfl Try.underlying105 rfl MA.out (x.own, x.idx) rfl _ rfl ?_; intro w3 hm3 hg3)
          go_meet
          case rel =>
            have hold : ∀ b, b < w0.heap.size → b ≠ vb → w3.heap[b]? = w0.heap[b]? := fun b h1 h2 => (hg3.block b (by omega) (fun e => h2 (Option.some.inj e))).trans (OA.out b h1)
            refine ⟨fun j => if j = kindOf x then w0.heap.size else ptk j, by simp [hsz], M0.out.add hmem (Nat.le_refl _) (by omega) (by omega) hP (by rw [hsz]; exact hm3) (heap_grown hg3 (by intro e; have := Option.some.inj e; omega) NA.out) hold, BA.out.trans (grown_below hg3 (by omega) (by intro k e; have := Option.some.inj e; omega)), fun k h1 h2 h3 => (hold k (by omega) h2).trans (F0.out k h1 h2 h3), ⟨D0.out.1, D0.out.2.1, Ty.C_frame (fun k hk _ => hold k (by have := hP k hk; omega) (by have := hP k hk; omega)) D0.out.2.2⟩, (hold _ (by omega) (by omega)).trans h6.out, ?_⟩
            · have := hg3.size; omega
      case rest =>
        obtain ⟨pt', rfl, M1, B1, F1, D1, h6', hs1⟩ := hcut
        clear M0 B0 F0 D0 h6 h7 o0 hlk k0 k1
        have hmk : kindOf x ∈ keyAdd qk.keys (kindOf x) := mem_keyAdd.2 (.inr rfl)
        obtain ⟨A, c', hrec, hrd⟩ := M1.out.at_ _ hmk
        have hne : wr.heap.size ≠ pt' (kindOf x) := by intro e; rw [← e] at hrec; have := h6'.out.symm.trans hrec; simp at this
        have hlo := M1.out.lo _ hmk
        generalize hg : pt' (kindOf x) = g at hrec hne hlo
        generalize hv : qk.ver (kindOf x) = v at hrec hrd hcn
        have HV := Lib.hid hv
        have HG := Lib.hid hg
        have HR := Lib.hid hrec
        have HRD := Lib.hid hrd
        have v0 := cell_of hrec 0 rfl
        have v1 := cell_of hrec 1 rfl
        have v2 := cell_of hrec 2 rfl
        have v3 := cell_of hrec 3 rfl
        have z0 := frozen_of hrec 0
        have z1 := frozen_of hrec 1
        have z2 := frozen_of hrec 2
        have z3 := frozen_of hrec 3
        have b2 := cell_of h6'.out 2 rfl
        clear hrec hrd hv hg
        have hcn2 : v.count < 4611686018427387904 := by omega
        by_cases hge : v.seq ≤ seq
        · go_wp2
          generalize hw1 : wc.setCell ⟨g, 3, none⟩ (.int .i64 ((v.count : Int) + 1)) = w1
          have R1 : Hid (w1.heap[g]? = some (.cells #[.int .i64 v.seq, .int .i64 v.at_, .slice A v.data.length c', .int .i64 ((v.count : Int) + 1)] 111 (0, 0))) := by rw [← hw1]; exact Ty.setCell_heap HR.out 3 _
          have O1 : Hid (∀ b, b ≠ g → w1.heap[b]? = wc.heap[b]?) := by rw [← hw1]; exact fun b hb => Below.heap_setCell _ _ _ _ hb
          have S1 : w1.heap.size = wc.heap.size := by rw [← hw1]; simp
          have C1 : Hid (Below vb w w1) := by rw [← hw1]; exact B1.out.setCell (by show vb ≤ g; omega) _
          clear hw1 v0 v1 v2 v3 z0 z1 z2 z3 b2
          have v0 := cell_of R1.out 0 rfl
          have v1 := cell_of R1.out 1 rfl
          have v2 := cell_of R1.out 2 rfl
          have z0 := frozen_of R1.out 0
          have z1 := frozen_of R1.out 1
          have z2 := frozen_of R1.out 2
          have b2 := cell_of ((O1.out _ hne).trans h6'.out) 2 rfl
          go_region
          go_wp2
          go_roundg (l.length - (k + 1))
          case measure => omega
          case rel =>
            refine ⟨k + 1, by omega, rfl, by go_num, ?_, ?_, ?_⟩
            · rw [HS.out, noteStep_ver, HV.out]
              simp only [bump, if_pos hge]
              refine ⟨pt', M1.out.put (v := ⟨seq, k, x.data, v.count + 1⟩) hmk (by omega) hP (A := Ad) (c := cd) ?_ D1.out (fun b h1 h2 => ?_) (by simp; omega)⟩
              · rw [HG.out]; exact Ty.setCell3 R1.out
              · rw [HG.out] at h2; exact (setCell3_other (Ne.symm h2)).trans (O1.out b h2)
            · exact (((C1.out.setCell (p := ⟨g, 0, none⟩) (by show vb ≤ g; omega) _).setCell (p := ⟨g, 1, none⟩) (by show vb ≤ g; omega) _).setCell (p := ⟨g, 2, none⟩) (by show vb ≤ g; omega) _).drew
            · exact fun j h1 h2 h3 => (setCell3_other (by omega)).trans ((O1.out j (by omega)).trans (F1.out j h1 h2 h3))
        · go_wp2
          go_roundg (l.length - (k + 1))
          case measure => omega
          case rel =>
            refine ⟨k + 1, by omega, rfl, by go_num, ?_, B1.out.setCell (p := ⟨g, 3, none⟩) (by show vb ≤ g; omega) _, ?_⟩
            · rw [HS.out, noteStep_ver, HV.out]
              simp only [bump, if_neg (Int.not_le.2 hge)]
              refine ⟨pt', M1.out.put (v := ⟨v.seq, v.at_, v.data, v.count + 1⟩) hmk (by omega) hP (A := A) (c := c') ?_ HRD.out (fun b h1 h2 => ?_) (Nat.le_of_eq (World.size_setCell _ _ _).symm)⟩
              · rw [HG.out]; exact Ty.setCell_heap HR.out 3 _
              · rw [HG.out] at h2; exact Below.heap_setCell _ _ _ _ h2
            · exact fun j h1 h2 h3 => (Below.heap_setCell _ _ _ _ (by show j ≠ g; omega)).trans (F1.out j h1 h2 h3)
    · go_wp2
      exact bodyPost_end (by kernel_rfl) rfl ⟨rfl, by
        obtain rfl : k = l.length := by omega
        exact hm.out, hb.out, hf.out⟩
end Go.Proofs.Ytfoeddmbhmfjcaa
/- log.versions. -/
namespace Go.Proofs.Ytfoeddmbhmfjcaa
open Go.RowKit
set_option maxRecDepth 100000 in
set_option maxHeartbeats 1000000 in
theorem versions_calls {P : Nat → Prop} (s : St) (A0 A1 A2 : Option Addr) (c0 c1 c2 : Nat) (w : World) (h0 : RdS tSg 32 w P A0 c0 s.segs) (h2 : RdS tBlk 40 w P A2 c2 s.opn) (h8 : ∀ x ∈ s.segs, x.blocks.length ≤ 8) (h64 : s.segs.length ≤ 64) (h8' : s.opn.length ≤ 8) :
    Calls Try.prog 56 #[.agg #[.slice A0 s.segs.length c0, .slice A1 s.held.length c1, .slice A2 s.opn.length c2, .int .i64 s.next]] w fun e w' => e = .returned (.map (some (w.heap.size + 1))) ∧
      (∃ pt, VersM w' (w.heap.size + 3) (w.heap.size + 1) (fun k => P k ∧ k < w.heap.size) (versOf s).keys (versOf s).ver pt) ∧ Below w.heap.size w w' := by
  have H0 := Lib.hid h0.lt
  have H2 := Lib.hid h2.lt
  have hmm := @run_makeMap Try.prog
  clear h0 h2
  go_enter Try.func56, Try.ntmps56
  go_upto_region 2 with fail
  generalize hw0 : ((w.alloc (.cells #[.slice A0 s.segs.length c0, .slice A1 s.held.length c1, .slice A2 s.opn.length c2, .int .i64 s.next] 36)).alloc (.map #[] 0)).alloc (.cells #[.map (some (w.heap.size + 1))] 105) = w0
  have hsz : w0.heap.size = w.heap.size + 3 := by rw [← hw0]; simp
  have hbx : Hid (w0.heap[w.heap.size]? = some (.cells #[.slice A0 s.segs.length c0, .slice A1 s.held.length c1, .slice A2 s.opn.length c2, .int .i64 s.next] 36 (0, 0))) := by rw [← hw0]; exact heap_alloc (heap_alloc (heap_alloc_new w _) _) _
  have hbo : Hid (w0.heap[w.heap.size + 2]? = some (.cells #[.map (some (w.heap.size + 1))] 105 (0, 0))) := by
    rw [← hw0]
    have := heap_alloc_new ((w.alloc (.cells #[.slice A0 s.segs.length c0, .slice A1 s.held.length c1, .slice A2 s.opn.length c2, .int .i64 s.next] 36)).alloc (.map #[] 0)) (.cells #[.map (some (w.heap.size + 1))] 105)
    exact Lib.hid (by simpa using this)
  have hmp : Hid (HasMap enc2 w0 (w.heap.size + 1) ([] : List (Kd × Value))) := by
    rw [← hw0]
    have := hasMap_made enc2 (w.alloc (.cells #[.slice A0 s.segs.length c0, .slice A1 s.held.length c1, .slice A2 s.opn.length c2, .int .i64 s.next] 36))
    exact Lib.hid (HasMap.frame (by simpa using this) (Below.heap_alloc _ _ _ (by simp)))
  have hB0 : Hid (Below w.heap.size w w0) := by rw [← hw0]; exact ((((Below.refl _ _).alloc (Nat.le_refl _) _).alloc (by simp) _).alloc (by simp; omega) _)
  clear hw0
  have n0 := cell_of hbx.out 0 rfl
  have hl0 : s.segs.length ≤ 9223372036854775807 := by omega
  go_wp2
  go_loopg [12] s.segs.length (fun g i wr => ∃ k : Nat, k ≤ s.segs.length ∧ g = s.segs.length - k ∧ i = .int .i64 k ∧ Hid (∃ pt, VersM wr (w.heap.size + 3) (w.heap.size + 1) (fun k => P k ∧ k < w.heap.size) (segsN s k).keys (segsN s k).ver pt) ∧
    Hid (Below w.heap.size w wr) ∧ w.heap.size + 3 ≤ wr.heap.size ∧ Hid (wr.heap[w.heap.size]? = some (.cells #[.slice A0 s.segs.length c0, .slice A1 s.held.length c1, .slice A2 s.opn.length c2, .int .i64 s.next] 36 (0, 0))) ∧
    Hid (wr.heap[w.heap.size + 2]? = some (.cells #[.map (some (w.heap.size + 1))] 105 (0, 0))))
  case atStart => exact ⟨0, Nat.zero_le _, rfl, rfl, ⟨fun _ => 0, versM_start _ _ _ _ hmp.out⟩, hB0.out, by omega, hbx.out, hbo.out⟩
  case round =>
    obtain ⟨k, hk, rfl, rfl, hm, hb, hs, hx1, hx2⟩ := hrel
    clear n0
    by_cases hlt : k < s.segs.length
    · obtain ⟨x, hx⟩ : ∃ x, s.segs[k]? = some x := ⟨_, List.getElem?_eq_getElem hlt⟩
      obtain ⟨b, off, Ad, cd, rfl, hPb, x0, x1, hd, xw⟩ := (H0.out.below hb.out).sgAt hx
      have HS := Lib.hid (segsN_succ hx)
      have hcn := countLe_segsN h8 k
      have hxl := h8 x (List.mem_of_getElem? hx)
      clear hx
      generalize segsN s k = qk at hm HS hcn
      obtain ⟨ptk, hm⟩ := hm.out
      have HM := Lib.hid hm
      have HD := Lib.hid hd
      clear hm hd
      go_wp2_with fail
      have HA := Lib.hid (((Below.refl _ _).alloc (Nat.le_refl _) _) : Below wr.heap.size wr (wr.alloc (.cells #[.int .i64 x.seq, .slice Ad x.blocks.length cd] 62)))
      have ho := Lib.hid (heap_alloc hx2.out (.cells #[.int .i64 x.seq, .slice Ad x.blocks.length cd] 62))
      have hoB := lt_of_heap hx2.out
      have hmA := Lib.hid (HM.out.below HA.out)
      refine (note_calls x.seq Ad cd x.blocks _ qk (8 * k) hcn (by omega) (HD.out.below HA.out) (fun k hk => by omega) ho.out (by omega) (by omega) (by simp; omega) ptk hmA.out).mono ?_
      rintro e w2 ⟨rfl, hm2, hb2, hf2⟩
      have sA : (wr.alloc (.cells #[.int .i64 x.seq, .slice Ad x.blocks.length cd] 62)).heap.size = wr.heap.size + 1 := by simp
      have hsz2 := hb2.size
      have HM2 := Lib.hid hm2
      have HB2 := Lib.hid (((hb.out.trans (HA.out.mono (by omega))).trans (hb2.mono (by omega))) : Below w.heap.size w w2)
      have hb1 := Lib.hid ((hf2 w.heap.size (by omega) (by omega) (by omega)).trans (heap_alloc hx1.out _))
      have ho1 := Lib.hid ((hf2 (w.heap.size + 2) (by omega) (by omega) (by omega)).trans ho.out)
      clear hm2 hb2 hf2
      go_wp2
      go_roundg (s.segs.length - (k + 1))
      case measure => omega
      case rel => exact ⟨k + 1, by omega, rfl, by go_num, by rw [HS.out]; exact HM2.out, HB2.out, by omega, hb1.out, ho1.out⟩
    · obtain rfl : k = s.segs.length := by omega
      have m0 := cell_of hx1.out 2 rfl
      have m3 := cell_of hx1.out 3 rfl
      have hcn := countLe_segsN h8 s.segs.length
      obtain ⟨ptk, hm⟩ := hm.out
      have HM := Lib.hid hm
      clear hm
      go_wp2_with fail
      refine (note_calls s.next A2 c2 s.opn _ (segsN s s.segs.length) (8 * s.segs.length) hcn (by omega) (H2.out.below hb.out) (fun k hk => by omega) hx2.out (by omega) (by omega) (by omega) ptk HM.out).mono ?_
      rintro e w2 ⟨rfl, hm2, hb2, hf2⟩
      have o0 := cell_of ((hf2 (w.heap.size + 2) (by omega) (by omega) (by omega)).trans hx2.out) 0 rfl
      have HM2 := Lib.hid hm2
      have HB2 := Lib.hid ((hb.out.trans (hb2.mono (by omega))) : Below w.heap.size w w2)
      clear hm2 hb2 hf2
      go_wp2
      go_ret
      exact ⟨rfl, HM2.out, HB2.out⟩
end Go.Proofs.Ytfoeddmbhmfjcaa
/- Plain: what a state that may be has. -/
namespace Go.Proofs.Ytfoeddmbhmfjcaa
open Go.RowKit
theorem cell_below {w w1 : World} {p : Addr} {v : Value} (hb : Below w.heap.size w w1) (h : w.cell? p = some v) : w1.cell? p = some v := (World.cell?_of_block (hb.block _ (lt_of_cell h))).trans h
theorem b_refl (w : World) : Below w.heap.size w w := Below.refl _ _
theorem b_drew {w X : World} (h : Below w.heap.size w X) : Below w.heap.size w X.drew := h.drew
theorem b_alloc {w X : World} {o : Obj} (h : Below w.heap.size w X) : Below w.heap.size w (X.alloc o) := h.alloc h.size o
theorem b_set {w X : World} {p : Addr} {v : Value} (hp : w.heap.size ≤ p.block) (h : Below w.heap.size w X) : Below w.heap.size w (X.setCell p v) := h.setCell hp v
theorem b_call {w X Y : World} (hb : Below X.heap.size X Y) (h : Below w.heap.size w X) : Below w.heap.size w Y := h.trans (hb.mono h.size)
theorem b_hid {w X : World} (h : Hid (Below w.heap.size w X)) : Below w.heap.size w X := h.out
theorem VersM.mono {w : World} {B vb : Nat} {P Q : Nat → Prop} {ks : List Kd} {f : Kd → Ver} {pt : Kd → Nat} (h : VersM w B vb P ks f pt) (hq : ∀ k, P k → Q k) : VersM w B vb Q ks f pt :=
  ⟨h.map, h.lo, h.inj, fun k hk => by
    obtain ⟨A, c, h1, h2⟩ := h.at_ k hk
    exact ⟨A, c, h1, h2.mono fun k h _ => hq k h⟩, h.out⟩
theorem VersM.frame {w w1 : World} {B vb g : Nat} {P : Nat → Prop} {ks : List Kd} {f : Kd → Ver} {pt : Kd → Nat} (h : VersM w B vb P ks f pt) (hf : ∀ b, b ≠ g → w1.heap[b]? = w.heap[b]?) (hs : w.heap.size ≤ w1.heap.size) (hg : g < vb) (hv : vb < B) (hP : ∀ k, P k → k ≠ g) : VersM w1 B vb P ks f pt :=
  ⟨h.map.frame (hf vb (by omega)), fun k hk => ⟨(h.lo k hk).1, Nat.lt_of_lt_of_le (h.lo k hk).2 hs⟩, h.inj, fun k hk => by
    obtain ⟨A, c, h1, h2⟩ := h.at_ k hk
    have := (h.lo k hk).1
    exact ⟨A, c, (hf _ (by omega)).trans h1, h2.1, h2.2.1, Ty.C_frame (fun b hb _ => hf b (hP b hb)) h2.2.2⟩, h.out⟩
theorem setCell2 {W : World} {b : Nat} {e : TypeId} {x0 x1 : Value} {cs : List Value} {fr : Nat × Nat} {a0 a1 : Value} (h : W.heap[b]? = some (.cells (x0 :: x1 :: cs).toArray e fr)) :
    ((W.setCell ⟨b, 0, none⟩ a0).setCell ⟨b, 1, none⟩ a1).heap[b]? = some (.cells (a0 :: a1 :: cs).toArray e fr) := by
  have := Ty.setCell_heap (Ty.setCell_heap h 0 a0) 1 a1
  simpa using this
structure Good (s : St) : Prop where
  n1 : 1 ≤ s.segs.length
  n64 : s.segs.length ≤ 64
  held : s.held.length = s.segs.length
  next1 : 1 ≤ s.next
  nextM : s.next ≤ 1099511627776
  opn8 : s.opn.length ≤ 8
  opnMay : s.opn.all mayBlk = true
  seg : ∀ (i : Nat) (x : Sg), s.segs[i]? = some x → freeB x = false → sgOk x = true ∧ x.seq < s.next
  dist : ∀ (i j : Nat) (x y : Sg), s.segs[i]? = some x → s.segs[j]? = some y → freeB x = false → freeB y = false → x.seq = y.seq → i = j
theorem chkFold_facts (s : St) : ∀ k, k ≤ s.segs.length →
    ((chkFold s k).1 = true ↔ (chkHead s && s.opn.all mayBlk) = true ∧ (∀ (i : Nat) (x : Sg), i < k → s.segs[i]? = some x → freeB x = false → sgOk x = true ∧ x.seq < s.next) ∧
      (∀ (i j : Nat) (x y : Sg), i < j → j < k → s.segs[i]? = some x → s.segs[j]? = some y → freeB x = false → freeB y = false → x.seq ≠ y.seq)) ∧
    ((chkFold s k).1 = true → ∀ q, q ∈ (chkFold s k).2 ↔ ∃ (i : Nat) (x : Sg), i < k ∧ s.segs[i]? = some x ∧ freeB x = false ∧ x.seq = q)
  | 0, _ => by simp [chkFold]
  | k + 1, hk => by
    obtain ⟨ih1, ih2⟩ := chkFold_facts s k (by omega)
    obtain ⟨x, hx⟩ : ∃ x, s.segs[k]? = some x := ⟨_, List.getElem?_eq_getElem (by omega)⟩
    rw [chkFold_succ s hx]
    generalize chkFold s k = f at ih1 ih2
    obtain ⟨ok, seen⟩ := f
    simp only at ih1 ih2
    cases ok with
    | false =>
      simp only [chkStep, Bool.not_false, Bool.true_or, if_true, Bool.false_eq_true, false_iff, false_imp_iff, and_true]
      simp only [Bool.false_eq_true, false_iff] at ih1
      rintro ⟨h0, h1, h2⟩
      exact ih1 ⟨h0, fun i x hi => h1 i x (by omega), fun i j x y hi hj => h2 i j x y hi (by omega)⟩
    | true =>
      simp only [true_iff, forall_const] at ih1 ih2
      obtain ⟨h0, h1, h2⟩ := ih1
      cases hf : freeB x with
      | true =>
        simp only [chkStep, hf, Bool.not_true, Bool.false_or, if_true, true_iff, forall_const]
        refine ⟨⟨h0, fun i y hi hy hfy => ?_, fun i j y z hi hj hy hz hfy hfz => ?_⟩, fun q => (ih2 q).trans ⟨?_, ?_⟩⟩
        · by_cases e : i = k
          · subst e; rw [hx] at hy; obtain rfl := Option.some.inj hy; simp [hf] at hfy
          · exact h1 i y (by omega) hy hfy
        · by_cases e : j = k
          · subst e; rw [hx] at hz; obtain rfl := Option.some.inj hz; simp [hf] at hfz
          · exact h2 i j y z hi (by omega) hy hz hfy hfz
        · rintro ⟨i, y, hi, r⟩; exact ⟨i, y, by omega, r⟩
        · rintro ⟨i, y, hi, hy, hfy, r⟩
          by_cases e : i = k
          · subst e; rw [hx] at hy; obtain rfl := Option.some.inj hy; simp [hf] at hfy
          · exact ⟨i, y, by omega, hy, hfy, r⟩
      | false =>
        simp only [chkStep, hf, Bool.not_true, Bool.or_false, Bool.false_eq_true, if_false, Bool.and_eq_true, decide_eq_true_eq, Bool.not_eq_true', decide_eq_false_iff_not]
        refine ⟨⟨fun ⟨⟨a1, a2⟩, a3⟩ => ⟨by simpa using h0, fun i y hi hy hfy => ?_, fun i j y z hi hj hy hz hfy hfz => ?_⟩, fun ⟨_, a1, a2⟩ => ⟨a1 k x (by omega) hx hf, fun hm => ?_⟩⟩, fun _ q => ?_⟩
        · by_cases e : i = k
          · subst e; rw [hx] at hy; obtain rfl := Option.some.inj hy; exact ⟨a1, a2⟩
          · exact h1 i y (by omega) hy hfy
        · by_cases e : j = k
          · subst e; rw [hx] at hz; obtain rfl := Option.some.inj hz
            exact fun e2 => a3 ((ih2 _).2 ⟨i, y, hi, hy, hfy, e2⟩)
          · exact h2 i j y z hi (by omega) hy hz hfy hfz
        · obtain ⟨i, y, hi, hy, hfy, e⟩ := (ih2 _).1 hm
          exact a2 i k y x hi (by omega) hy hx hfy hf e
        · simp only [List.mem_cons, ih2 q]
          constructor
          · rintro (rfl | ⟨i, y, hi, r⟩)
            · exact ⟨k, x, by omega, hx, hf, rfl⟩
            · exact ⟨i, y, by omega, r⟩
          · rintro ⟨i, y, hi, hy, hfy, r⟩
            by_cases e : i = k
            · subst e; rw [hx] at hy; obtain rfl := Option.some.inj hy; exact .inl r.symm
            · exact .inr ⟨i, y, by omega, hy, hfy, r⟩
theorem idx_lt {α : Type} {l : List α} {i : Nat} {x : α} (h : l[i]? = some x) : i < l.length := (List.getElem?_eq_some_iff.1 h).1
theorem chk_iff (s : St) : chk s = true ↔ Good s := by
  unfold chk
  rw [(chkFold_facts s _ (Nat.le_refl _)).1]
  constructor
  · rintro ⟨h0, h1, h2⟩
    simp only [Bool.and_eq_true, chkHead, decide_eq_true_eq] at h0
    refine ⟨h0.1.1, h0.1.2.1, h0.1.2.2.1, h0.1.2.2.2.1, h0.1.2.2.2.2.1, h0.1.2.2.2.2.2, h0.2, fun i x hx hf => h1 i x (idx_lt hx) hx hf, fun i j x y hx hy hfx hfy e => ?_⟩
    rcases Nat.lt_trichotomy i j with h | h | h
    · exact absurd e (h2 i j x y h (idx_lt hy) hx hy hfx hfy)
    · exact h
    · exact absurd e.symm (h2 j i y x h (idx_lt hx) hy hx hfy hfx)
  · intro g
    refine ⟨?_, fun i x _ hx hf => g.seg i x hx hf, fun i j x y hi hj hx hy hfx hfy e => by have := g.dist i j x y hx hy hfx hfy e; omega⟩
    simp only [Bool.and_eq_true, chkHead, decide_eq_true_eq]
    exact ⟨⟨g.n1, g.n64, g.held, g.next1, g.nextM, g.opn8⟩, g.opnMay⟩
theorem Good.blocks8 {s : St} (g : Good s) : ∀ x ∈ s.segs, x.blocks.length ≤ 8 := by
  intro x hx
  obtain ⟨i, hi⟩ := List.getElem?_of_mem hx
  cases hf : freeB x with
  | true => simp only [freeB, decide_eq_true_eq] at hf; omega
  | false =>
    have := (g.seg i x hi hf).1
    simp only [sgOk, Bool.and_eq_true, decide_eq_true_eq] at this
    omega
theorem keyAdd_mono {l : List Kd} {k j : Kd} (h : j ∈ l) : j ∈ keyAdd l k := mem_keyAdd.2 (.inl h)
theorem noteN_mono {seq : Int} {l : List Blk} {q : Vers} {j : Kd} (h : j ∈ q.keys) : ∀ k, j ∈ (noteN seq l q k).keys
  | 0 => h
  | k + 1 => by
    simp only [noteN]
    split
    · exact keyAdd_mono (noteN_mono h k)
    · exact noteN_mono h k
theorem noteN_mem {seq : Int} {l : List Blk} {q : Vers} : ∀ (k i : Nat) (b : Blk), i < k → l[i]? = some b → kindOf b ∈ (noteN seq l q k).keys
  | 0, i, b, h, _ => absurd h (Nat.not_lt_zero _)
  | k + 1, i, b, h, hb => by
    by_cases e : i = k
    · subst e
      rw [noteN_succ hb]
      exact mem_keyAdd.2 (.inr rfl)
    · have ih := noteN_mem (seq := seq) (l := l) (q := q) k i b (by omega) hb
      simp only [noteN]
      split
      · exact keyAdd_mono ih
      · exact ih
theorem segsN_mem {s : St} : ∀ (k i : Nat) (x : Sg), i < k → s.segs[i]? = some x → ∀ (j : Nat) (b : Blk), x.blocks[j]? = some b → kindOf b ∈ (segsN s k).keys
  | 0, i, x, h, _ => absurd h (Nat.not_lt_zero _)
  | k + 1, i, x, h, hx => fun j b hb => by
    by_cases e : i = k
    · subst e
      rw [segsN_succ hx]
      exact noteN_mem _ j b (idx_lt hb) hb
    · have ih := segsN_mem k i x (by omega) hx j b hb
      simp only [segsN]
      split
      · exact noteN_mono ih _
      · exact ih
theorem versOf_mem {s : St} {i : Nat} {x : Sg} (hx : s.segs[i]? = some x) {j : Nat} {b : Blk} (hb : x.blocks[j]? = some b) : kindOf b ∈ (versOf s).keys :=
  noteN_mono (segsN_mem _ i x (idx_lt hx) hx j b hb) _
/-- Live -/
def liveKeep (q : Vers) (x : Sg) (i : Nat) (b : Blk) : Bool := decide ((q.ver (kindOf b)).seq = x.seq ∧ (q.ver (kindOf b)).at_ = i ∧ (0 < b.data.length ∨ 1 < (q.ver (kindOf b)).count))
def liveN (q : Vers) (x : Sg) : Nat → List Blk
  | 0 => []
  | k + 1 => match x.blocks[k]? with | some b => if liveKeep q x k b = true then liveN q x k ++ [b] else liveN q x k | none => liveN q x k
theorem liveN_succ {q : Vers} {x : Sg} {k : Nat} {b : Blk} (h : x.blocks[k]? = some b) : liveN q x (k + 1) = if liveKeep q x k b = true then liveN q x k ++ [b] else liveN q x k := by simp [liveN, h]
theorem liveN_len (q : Vers) (x : Sg) : ∀ k, (liveN q x k).length ≤ k
  | 0 => Nat.le_refl _
  | k + 1 => by
    have ih := liveN_len q x k
    simp only [liveN]
    split
    · split
      · simp; omega
      · omega
    · omega
/-- the slot's segment, if there is one -/
def slotOf (s : St) (slot : Int) : Option Sg := if 0 ≤ slot then (match s.segs[slot.toNat]? with | some x => if freeB x = true then none else some x | none => none) else none
def liveErr (s : St) (slot : Int) : Int := if chk s = true then (if (slotOf s slot).isSome then 0 else 71) else 9
def liveL (s : St) (slot : Int) : List Blk := if chk s = true then (match slotOf s slot with | some x => liveN (versOf s) x x.blocks.length | none => []) else []
end Go.Proofs.Ytfoeddmbhmfjcaa
/- log.Live. -/
namespace Go.Proofs.Ytfoeddmbhmfjcaa
open Go.RowKit
theorem slot_neg {s : St} {slot : Int} (h : slot < 0) : slotOf s slot = none := by simp [slotOf]; omega
theorem slot_big {s : St} {slot : Int} (h : (s.segs.length : Int) ≤ slot) : slotOf s slot = none := by
  have : s.segs[slot.toNat]? = none := List.getElem?_eq_none (by omega)
  simp [slotOf, this]
theorem slot_at {s : St} {k : Nat} {x : Sg} (h : s.segs[k]? = some x) : slotOf s (k : Int) = if freeB x = true then none else some x := by simp [slotOf, h]
theorem six_below {w w1 : World} {p0 p1 p2 p3 p4 p5 : Addr} {v0 v1 v2 v3 v4 v5 : Value} (hb : Below w.heap.size w w1) (h : w.cell? p0 = some v0 ∧ w.cell? p1 = some v1 ∧ w.cell? p2 = some v2 ∧ w.cell? p3 = some v3 ∧ w.cell? p4 = some v4 ∧ w.cell? p5 = some v5) :
    w1.cell? p0 = some v0 ∧ w1.cell? p1 = some v1 ∧ w1.cell? p2 = some v2 ∧ w1.cell? p3 = some v3 ∧ w1.cell? p4 = some v4 ∧ w1.cell? p5 = some v5 :=
  ⟨cell_below hb h.1, cell_below hb h.2.1, cell_below hb h.2.2.1, cell_below hb h.2.2.2.1, cell_below hb h.2.2.2.2.1, cell_below hb h.2.2.2.2.2⟩
set_option maxRecDepth 100000 in
set_option maxHeartbeats 2000000 in
theorem live_calls {P : Nat → Prop} (s : St) (slot : Int) (A0 A1 A2 : Option Addr) (c0 c1 c2 : Nat) (w : World) (h0 : RdS tSg 32 w P A0 c0 s.segs) (h2 : RdS tBlk 40 w P A2 c2 s.opn) :
    Calls Try.prog 21 #[.agg #[.slice A0 s.segs.length c0, .slice A1 s.held.length c1, .slice A2 s.opn.length c2, .int .i64 s.next], .int .i64 slot] w fun e w' => ∃ v, e = .returned (.tuple #[v, .int .i64 (liveErr s slot)]) ∧
      tBlk.Row 57 w' w.heap.size (fun b => w.heap.size ≤ b) v (liveL s slot) ∧ Below w.heap.size w w' := by
  have hl0 : s.segs.length ≤ 9223372036854775807 := by have := h0.2.1; unfold reachB at this; omega
  have H0 := Lib.hid h0.lt
  have H2 := Lib.hid h2.lt
  clear h0 h2
  go_enter Try.func21, Try.ntmps21
  go_upto_region 1 with fail
  have hbx := Lib.hid (heap_alloc_new w (.cells #[.slice A0 s.segs.length c0, .slice A1 s.held.length c1, .slice A2 s.opn.length c2, .int .i64 s.next] 36))
  have hB0 : Hid (Below w.heap.size w (w.alloc (.cells #[.slice A0 s.segs.length c0, .slice A1 s.held.length c1, .slice A2 s.opn.length c2, .int .i64 s.next] 36))) := (Below.refl _ _).alloc (Nat.le_refl _) _
  generalize w.alloc (.cells #[.slice A0 s.segs.length c0, .slice A1 s.held.length c1, .slice A2 s.opn.length c2, .int .i64 s.next] 36) = w0 at *
  have hs0 := lt_of_heap hbx.out
  have x0 := cell_of hbx.out 0 rfl
  have x1 := cell_of hbx.out 1 rfl
  have x2 := cell_of hbx.out 2 rfl
  have x3 := cell_of hbx.out 3 rfl
  go_wp2_with fail
  refine (check_calls s A0 A1 A2 c0 c1 c2 w0 (H0.out.below hB0.out) (H2.out.below hB0.out)).mono ?_
  rintro e w1 ⟨rfl, hb1⟩
  have HB1 := Lib.hid (hB0.out.trans (hb1.mono hB0.out.size))
  have hbx1 := Lib.hid (heap_below hb1 hbx.out)
  have hs1 := hb1.size
  clear x0 x1 x2 x3 hb1 hbx hB0
  cases hchk : chk s with
  | false =>
    have hc := Lib.hid hchk
    clear hchk
    have e9 := errOf_f hc.out
    go_wp2
    refine bodyPost_ret (results_tmp2 rfl _ _ _) rfl ?_
    exact ⟨_, by simp [liveErr, hc.out, errOf]; rfl, by simp [liveL, hc.out]; exact Ty.Row_nil _ _ _ _ _, HB1.out⟩
  | true =>
    have hc := Lib.hid hchk
    have G := Lib.hid ((chk_iff s).1 hchk)
    clear hchk
    have y0 := cell_of hbx1.out 0 rfl
    have y1 := cell_of hbx1.out 1 rfl
    have y2 := cell_of hbx1.out 2 rfl
    have y3 := cell_of hbx1.out 3 rfl
    have e9 := errOf_t hc.out
    by_cases hneg : slot < 0
    · go_wp2
      refine bodyPost_ret (results_tmp2 rfl _ _ _) rfl ?_
      exact ⟨_, by simp [liveErr, hc.out, slot_neg hneg]; rfl, by simp [liveL, hc.out, slot_neg hneg]; exact Ty.Row_nil _ _ _ _ _, HB1.out⟩
    · by_cases hbig : (s.segs.length : Int) ≤ slot
      · go_wp2
        refine bodyPost_ret (results_tmp2 rfl _ _ _) rfl ?_
        exact ⟨_, by simp [liveErr, hc.out, slot_big hbig]; rfl, by simp [liveL, hc.out, slot_big hbig]; exact Ty.Row_nil _ _ _ _ _, HB1.out⟩
      · obtain ⟨k, rfl⟩ : ∃ k : Nat, slot = k := ⟨slot.toNat, by omega⟩
        have hk : k < s.segs.length := by omega
        obtain ⟨x, hx⟩ : ∃ x, s.segs[k]? = some x := ⟨_, List.getElem?_eq_getElem hk⟩
        obtain ⟨b, off, Ad, cd, rfl, hPb, z0w, z1w, hd, xw⟩ := H0.out.sgAt hx
        have z0 := cell_below HB1.out z0w
        have z1 := cell_below HB1.out z1w
        have HX := Lib.hid hx
        have HDw := Lib.hid hd
        clear hx hd z0w z1w
        go_wp2_with fail
        refine (free_calls x Ad cd w1).mono ?_
        rintro e w2 ⟨rfl, hb2⟩
        have HB2 := Lib.hid (HB1.out.trans (hb2.mono HB1.out.size))
        have hbx2 := Lib.hid (heap_below hb2 hbx1.out)
        have hs2 := hb2.size
        have z0' := cell_below hb2 z0
        have z1' := cell_below hb2 z1
        clear z0 z1
        clear hb2 hbx1 HB1 y0 y1 y2 y3
        have y0 := cell_of hbx2.out 0 rfl
        have y1 := cell_of hbx2.out 1 rfl
        have y2 := cell_of hbx2.out 2 rfl
        have y3 := cell_of hbx2.out 3 rfl
        cases hfr : freeB x with
        | true =>
          have HF := Lib.hid hfr
          clear hfr
          go_wp2
          refine bodyPost_ret (results_tmp2 rfl _ _ _) rfl ?_
          exact ⟨_, by simp [liveErr, hc.out, slot_at HX.out, HF.out]; rfl, by simp [liveL, hc.out, slot_at HX.out, HF.out]; exact Ty.Row_nil _ _ _ _ _, HB2.out⟩
        | false =>
          have HF := Lib.hid hfr
          clear hfr
          go_upto_region 6 with fail
          go_cut [7, 8] (fun s7 s8 wx => ∃ g vb B pt, s7 = .pointer (some ⟨g, 0, none⟩) ∧ s8 = .map (some vb) ∧ w.heap.size ≤ g ∧ Hid (wx.heap[g]? = some (.cells #[.int .i64 x.seq, .slice Ad x.blocks.length cd] 62 (0, 0))) ∧
            Hid (VersM wx B vb (fun k => P k ∧ k < w.heap.size) (versOf s).keys (versOf s).ver pt) ∧ Hid (Below w.heap.size w wx))
          case first =>
            have SX : Hid (_ ∧ _ ∧ _ ∧ _ ∧ _ ∧ _) := Lib.hid ⟨y0, y1, y2, y3, z0', z1'⟩
            have q0 := H0.out.below HB2.out
            have q2 := H2.out.below HB2.out
            go_region_held3 (fun w' => w'.cell? ⟨w.heap.size, 0, none⟩ = some (.slice (some ⟨b, off, none⟩) s.segs.length c0) ∧ w'.cell? ⟨w.heap.size, 1, none⟩ = some (.slice A1 s.held.length c1) ∧ w'.cell? ⟨w.heap.size, 2, none⟩ = some (.slice A2 s.opn.length c2) ∧ w'.cell? ⟨w.heap.size, 3, none⟩ = some (.int .i64 s.next) ∧
                w'.cell? ⟨b, off + k * 2, none⟩ = some (.int .i64 x.seq) ∧ w'.cell? ⟨b, off + k * 2 + 1, none⟩ = some (.slice Ad x.blocks.length cd))
              (exact six_below (by (repeat' (first | exact b_refl _ | assumption | (refine b_hid ?_; assumption) | refine b_drew ?_ | refine b_alloc ?_ | (refine b_set ?_ ?_; (first | exact Nat.le_refl _ | omega | (simp; omega) | (simp; done))) | (refine b_call (by assumption) ?_)))) SX.out)
              (first
               | (go_at_call 56; refine (versions_calls s _ A1 A2 c0 c1 c2 _ (q0.below (by (repeat' (first | exact b_refl _ | assumption | (refine b_hid ?_; assumption) | refine b_drew ?_ | refine b_alloc ?_ | (refine b_set ?_ ?_; (first | exact Nat.le_refl _ | omega | (simp; omega) | (simp; done))) | (refine b_call (by assumption) ?_))))) (q2.below (by (repeat' (first | exact b_refl _ | assumption | (refine b_hid ?_; assumption) | refine b_drew ?_ | refine b_alloc ?_ | (refine b_set ?_ ?_; (first | exact Nat.le_refl _ | omega | (simp; omega) | (simp; done))) | (refine b_call (by assumption) ?_))))) G.out.blocks8 G.out.n64 G.out.opn8).mono ?_; rintro e w3 ⟨rfl, ⟨pt3, hm3⟩, hb3⟩; have hs3 := hb3.size; simp at hs3; try (have g9 := Lib.hid (heap_below hb3 (heap_alloc_new w2 (.cells #[.int .i64 0, .slice none 0 0] 62))); have g0 := cell_of g9.out 0 rfl; have g1 := cell_of g9.out 1 rfl; have f0 := frozen_of g9.out 0; have f1 := frozen_of g9.out 1)))
            · go_wp2
              go_meet
              case rel => exact ⟨_, _, _, _, rfl, rfl, by omega, heap_alloc_new w3 _, (hm3.mono (fun k hk => hk.1)).below (b_alloc (b_refl _)), b_call (X := w3) (b_alloc (b_refl _)) (b_call hb3 (b_drew (HB2.out)))⟩
            · go_wp2
              go_meet
              case rel =>
                have hm4 := hm3.mono (Q := fun k => P k ∧ k < w.heap.size) (fun k hk => hk.1)
                simp only [World.size_drew, World.size_alloc] at hm4
                refine ⟨_, _, _, _, rfl, rfl, Nat.le_trans (by omega) hs2, setCell2 g9.out, VersM.frame (g := w2.heap.size) hm4 (fun b hb => ?_) ?_ ?_ ?_ ?_, ?_⟩
                · exact (Below.heap_setCell _ _ _ _ hb).trans (Below.heap_setCell _ _ _ _ hb)
                · simp
                · omega
                · omega
                · intro k hk; have := hk.2; omega
                · exact b_set (by show w.heap.size ≤ w2.heap.size; omega) (b_set (by show w.heap.size ≤ w2.heap.size; omega) (b_call hb3 (b_drew (b_alloc HB2.out))))
          case rest =>
            obtain ⟨g, vb, B, pt, rfl, rfl, hg, hxg, hm, hb⟩ := hcut
            obtain ⟨W, hW⟩ : ∃ W, W = wc := ⟨_, rfl⟩
            subst hW
            have hwc := hb.out.size
            have hx8 := G.out.blocks8 x (List.mem_of_getElem? HX.out)
            clear y0 y1 y2 y3 z0' z1' hbx2 HB2
            have m1 := cell_of hxg.out 1 rfl
            generalize hq : versOf s = q at hm
            have HQ := Lib.hid hq
            clear hq
            go_wp2
            go_loopg [9, 45] x.blocks.length (fun g' v9 i wr => ∃ j : Nat, j ≤ x.blocks.length ∧ g' = x.blocks.length - j ∧ i = .int .i64 j ∧ Hid (tBlk.RowI 57 wr W.heap.size (fun _ k => P k ∧ k < w.heap.size) v9 (liveN q x j)) ∧ Hid (Below W.heap.size W wr))
            case atStart => exact ⟨0, Nat.zero_le _, rfl, rfl, Ty.RowI_nil _ _ _ _ _, Below.refl _ _⟩
            case round =>
              obtain ⟨j, hj, rfl, rfl, hr, hbr⟩ := hrel
              obtain ⟨A9, c9, rfl, hc9⟩ := Ty.Row_slice hr.out
              clear m1
              by_cases hlt : j < x.blocks.length
              · obtain ⟨y, hy⟩ : ∃ y, x.blocks[j]? = some y := ⟨_, List.getElem?_eq_getElem hlt⟩
                obtain ⟨b2, off2, Ad2, cd2, rfl, hP2, t0, t1, t2, hd2, yw1, yw2⟩ := (HDw.out.below (b_call hbr.out hb.out)).blkAt hy
                have hmem : kindOf y ∈ q.keys := by rw [← HQ.out]; exact versOf_mem HX.out hy
                have HL := Lib.hid (liveN_succ (q := q) hy)
                have HY := Lib.hid (blk_mk yw1 yw2 hd2)
                clear hy hd2
                go_upto_region 11 with fail
                have h6 := Lib.hid (heap_alloc_new wr (.cells #[.int .i64 y.own, .int .i64 y.idx, .slice Ad2 y.data.length cd2] 57))
                have hb0 : Hid (Below wr.heap.size wr (wr.alloc (.cells #[.int .i64 y.own, .int .i64 y.idx, .slice Ad2 y.data.length cd2] 57))) := b_alloc (b_refl _)
                generalize wr.alloc (.cells #[.int .i64 y.own, .int .i64 y.idx, .slice Ad2 y.data.length cd2] 57) = w0 at *
                have B0 := Lib.hid (b_call hb0.out hbr.out)
                have M0 := Lib.hid (hm.out.below B0.out)
                have R0 := Lib.hid (Ty.RowI_below hr.out hb0.out)
                have Y0 := Lib.hid (Ty.below HY.out hb0.out)
                clear t0 t1 t2
                have k0 := cell_of h6.out 0 rfl
                have k1 := cell_of h6.out 1 rfl
                have k2 := cell_of h6.out 2 rfl
                have x0 := cell_of (heap_below B0.out hxg.out) 0 rfl
                have hlk := lookup_vers M0.out y.own y.idx
                rw [if_pos (show (y.own, y.idx) ∈ q.keys from hmem)] at hlk
                obtain ⟨A5, c5, hrec, hrd⟩ := M0.out.at_ _ hmem
                have hcnt := countLe_noteN (seq := s.next) (l := s.opn) (countLe_segsN G.out.blocks8 s.segs.length) s.opn.length (kindOf y)
                rw [show noteN s.next s.opn (segsN s s.segs.length) s.opn.length = q from HQ.out] at hcnt
                have hn64 := G.out.n64
                have ho8 := G.out.opn8
                have hlv : liveKeep q x j y = decide ((q.ver (kindOf y)).seq = x.seq ∧ (q.ver (kindOf y)).at_ = j ∧ (0 < y.data.length ∨ 1 < (q.ver (kindOf y)).count)) := rfl
                rw [show (y.own, y.idx) = kindOf y from rfl] at hlk
                generalize pt (kindOf y) = n at hrec hlk
                generalize q.ver (kindOf y) = v at hrec hcnt hlv
                have v0 := cell_of hrec 0 rfl
                have v1 := cell_of hrec 1 rfl
                have v3 := cell_of hrec 3 rfl
                clear hrec hrd
                go_upto_region 12 with fail
                go_cut [84] (fun s84 wx => s84 = .bool (liveKeep q x j y) ∧ wx = w0.drew)
                case first =>
                  have HLV := Lib.hid hlv
                  clear hlv
                  by_cases e1 : v.seq = x.seq
                  · by_cases e2 : v.at_ = (j : Int)
                    · by_cases e3 : 0 < y.data.length
                      · go_region
                        go_wp2
                        go_meet
                        case rel => exact ⟨bool_v (by rw [HLV.out]; simp [e1, e2, e3]), rfl⟩
                      · go_region
                        go_wp2
                        go_meet
                        case rel => exact ⟨bool_v (by rw [HLV.out]; simp [e1, e2]; omega), rfl⟩
                    · have e2' : (v.at_ == (j : Int)) = false := by simpa using e2
                      go_region
                      go_wp2
                      go_meet
                      case rel => exact ⟨bool_v (by rw [HLV.out]; simp [e2]), rfl⟩
                  · have e1' : (v.seq == x.seq) = false := by simpa using e1
                    go_region
                    go_wp2
                    go_meet
                    case rel => exact ⟨bool_v (by rw [HLV.out]; simp [e1]), rfl⟩
                case rest =>
                  obtain ⟨rfl, hwx⟩ := hcut
                  rw [hwx]
                  clear v0 v1 v3 hlv hlk x0 hwx k0 k1 k2
                  have h6' : Hid (w0.drew.heap[wr.heap.size]? = _) := h6
                  have R0' := Lib.hid (Ty.RowI_below R0.out (b_drew (b_refl _)))
                  have Y0' := Lib.hid (Ty.below Y0.out (b_drew (b_refl _)))
                  have B0' := Lib.hid (b_drew B0.out)
                  clear h6 R0 Y0 B0 hm M0
                  generalize w0.drew = w0 at *
                  have k0 := cell_of h6'.out 0 rfl
                  have k1 := cell_of h6'.out 1 rfl
                  have k2 := cell_of h6'.out 2 rfl
                  generalize hkp : liveKeep q x j y = kp at HL
                  have HKP := Lib.hid hkp
                  clear hkp
                  cases kp
                  · go_wp2
                    go_roundg (x.blocks.length - (j + 1))
                    case measure => omega
                    case rel => exact ⟨j + 1, by omega, rfl, by go_num, by rw [HL.out]; exact R0'.out, B0'.out⟩
                  · have hln := liveN_len q x j
                    go_upto_region 13 with fail
                    go_wp2_with (at_builtin; refine Ty.wpList_append_Row (T := tBlk) (e := 57) (t := 34) (B := W.heap.size) (PI := fun _ k => P k ∧ k < w.heap.size) (Pn := fun k => P k ∧ k < w.heap.size) (xs := liveN q x j) (ys := [y]) (A := some ⟨w0.heap.size, 0, none⟩) (c := 1) rfl (.tmp 85) (.tmp 87) rfl (z := (.agg #[.int .i64 0, .int .i64 0, .slice none 0 0])) (bytes := 40) Try.underlying34 info57 rfl (by decide) rfl rfl ?aO ?aR ?aN ?aB ?aL ?_)
                    case aO => exact Ty.RowI_below R0'.out (b_alloc (b_refl _))
                    case aR => exact Ty.CC_one (Ty.below Y0'.out (b_alloc (b_refl _))) (fun i u hu => by
                      rw [Nat.zero_add]
                      exact cell_of (heap_alloc_new w0 _) i (by simpa using hu))
                    case aN => intro k h1 h2 _ e; have := (Ty.RowI_lt R0'.out e.symm).1; omega
                    case aB => have := B0'.out.size; omega
                    case aL => omega
                    intro v1 w1 hr1 hg1 hat
                    have BW := Lib.hid ((b_alloc B0'.out : Below W.heap.size W (w0.alloc (.cells #[.int .i64 y.own, .int .i64 y.idx, .slice Ad2 y.data.length cd2] 57))).trans (grown_below hg1 (by simp; have := B0'.out.size; omega) (fun k hk => (Ty.RowI_lt R0'.out hk).1)))
                    go_wp2
                    go_roundg (x.blocks.length - (j + 1))
                    case measure => omega
                    case rel => exact ⟨j + 1, by omega, rfl, by go_num, by rw [HL.out]; exact hr1, BW.out⟩
              · obtain rfl : j = x.blocks.length := by omega
                have hln := liveN_len q x x.blocks.length
                have hHH : RdS tBlk 40 wr (fun k => (P k ∧ k < w.heap.size) ∨ W.heap.size ≤ k) A9 c9 (liveN q x x.blocks.length) := ⟨hc9, by unfold reachB; omega, Ty.RowI_C hr.out (fun i k _ h _ => .inl h) (fun k hk => .inr (Ty.RowI_lt hr.out hk).1)⟩
                go_wp2_with fail
                refine (cloneBlocks_calls A9 c9 _ wr hHH).mono ?_
                rintro e w5 ⟨v5, rfl, hr5, hb5⟩
                go_wp2
                refine bodyPost_ret (results_tmp2 rfl _ _ _) rfl ?_
                have hsz := hbr.out.size
                refine ⟨v5, ?_, ?_, b_call hb5 (b_call hbr.out hb.out)⟩
                · simp [liveErr, hc.out, slot_at HX.out, HF.out]
                · have e : liveL s k = liveN q x x.blocks.length := by simp [liveL, hc.out, slot_at HX.out, HF.out, ← HQ.out]
                  rw [e]
                  exact Ty.Row_low (Ty.Row_mono hr5 (fun k hk _ => by omega)) (by omega)
end Go.Proofs.Ytfoeddmbhmfjcaa
/- Results that lie in a memory cell, and rows read as slices. -/
namespace Go.Proofs.Ytfoeddmbhmfjcaa
open Go.RowKit
section
variable {P : Program} {fn : Func} {p u u2 : Tmp} {ty : TypeId} (w : World)
theorem results_row_tmp (h : fn.results = #[.cell p ty, .tmp u]) (tmps : Array Value) (g : Nat) (t : TypeId) (cs : Array Value) (fr : Nat × Nat) (d : TypeDesc) (hp : tmps.getD p undef = .pointer (some ⟨g, 0, none⟩)) (hg : w.heap[g]? = some (.cells cs t fr))
    (hu : P.underlying ty = some d) (hd : (match d with | .struct _ | .array _ _ => true | _ => false) = true) (hi : (P.info? ty).map (·.size) = some cs.size) :
    (results fn tmps).run P w = .ok (.tuple #[.agg cs, tmps.getD u undef]) w := by
  have hp' : tmps[p]?.getD undef = .pointer (some ⟨g, 0, none⟩) := by simpa using hp
  simp [results, h, hp', asAddr, run_loadVar_row w g t ty cs fr d hg hu hd hi]
theorem results_row_tmp2 (h : fn.results = #[.cell p ty, .tmp u, .tmp u2]) (tmps : Array Value) (g : Nat) (t : TypeId) (cs : Array Value) (fr : Nat × Nat) (d : TypeDesc) (hp : tmps.getD p undef = .pointer (some ⟨g, 0, none⟩)) (hg : w.heap[g]? = some (.cells cs t fr))
    (hu : P.underlying ty = some d) (hd : (match d with | .struct _ | .array _ _ => true | _ => false) = true) (hi : (P.info? ty).map (·.size) = some cs.size) :
    (results fn tmps).run P w = .ok (.tuple #[.agg cs, tmps.getD u undef, tmps.getD u2 undef]) w := by
  have hp' : tmps[p]?.getD undef = .pointer (some ⟨g, 0, none⟩) := by simpa using hp
  simp [results, h, hp', asAddr, run_loadVar_row w g t ty cs fr d hg hu hd hi]
end
theorem rdS_row {α : Type} {T : Ty α} {e : TypeId} {w : World} {B b : Nat} {PI : Nat → Nat → Prop} {P : Nat → Prop} {A : Option Addr} {n c : Nat} {xs : List α} (h : T.RowI e w B PI (.slice A n c) xs) (hP : ∀ i k, i < xs.length → PI i k → k < w.heap.size → P k) (hB : ∀ k, B ≤ k → P k) (hb : xs.length * b ≤ reachB) :
    RdS T b w P A c xs := by
  obtain ⟨A', c', e1, hc⟩ := Ty.Row_slice h
  injection e1 with e1 _ e2
  subst e1; subst e2
  exact ⟨hc, hb, Ty.RowI_C h hP (fun k hk => hB k (Ty.RowI_lt h hk).1)⟩
/-- a state made of no cells -/
def St.zero : St := ⟨[], [], [], 0⟩
theorem zero_rep (w : World) (P : Nat → Prop) : tSt.rep w P St.zero [.slice none 0 0, .slice none 0 0, .slice none 0 0, .int .i64 0] :=
  st_mk (x := St.zero) ⟨Nat.le_refl _, Nat.zero_le _, Ty.C_nil⟩ ⟨Nat.le_refl _, Nat.zero_le _, Ty.C_nil⟩ ⟨Nat.le_refl _, Nat.zero_le _, Ty.C_nil⟩ rfl
theorem setCell4 {W : World} {b : Nat} {e : TypeId} {x0 x1 x2 x3 : Value} {fr : Nat × Nat} {a0 a1 a2 a3 : Value} (h : W.heap[b]? = some (.cells #[x0, x1, x2, x3] e fr)) :
    ((((W.setCell ⟨b, 0, none⟩ a0).setCell ⟨b, 1, none⟩ a1).setCell ⟨b, 2, none⟩ a2).setCell ⟨b, 3, none⟩ a3).heap[b]? = some (.cells #[a0, a1, a2, a3] e fr) := by
  have := Ty.setCell_heap (Ty.setCell_heap (Ty.setCell_heap (Ty.setCell_heap h 0 a0) 1 a1) 2 a2) 3 a3
  simpa using this
theorem setCell4_other {w : World} {b k : Nat} {a0 a1 a2 a3 : Value} (h : b ≠ k) : ((((w.setCell ⟨b, 0, none⟩ a0).setCell ⟨b, 1, none⟩ a1).setCell ⟨b, 2, none⟩ a2).setCell ⟨b, 3, none⟩ a3).heap[k]? = w.heap[k]? := by
  rw [Below.heap_setCell _ _ _ _ (Ne.symm h), setCell3_other h]
def stCells (v0 v1 v2 : Value) (n : Int) : Array Value := #[v0, v1, v2, .int .i64 n]
end Go.Proofs.Ytfoeddmbhmfjcaa
/- log.Free. -/
namespace Go.Proofs.Ytfoeddmbhmfjcaa
open Go.RowKit
def freeSt (s : St) (k : Nat) : St := ⟨s.segs.set k ⟨0, []⟩, s.held, s.opn, s.next⟩
def frErr (s : St) (slot : Int) : Int := if liveErr s slot = 0 then (if liveL s slot = [] then 0 else 91) else liveErr s slot
def frSt (s : St) (slot : Int) : St := if frErr s slot = 0 then freeSt s slot.toNat else St.zero
set_option maxRecDepth 100000 in
set_option maxHeartbeats 2000000 in
theorem logFree_calls {P : Nat → Prop} (s : St) (slot : Int) (A0 A1 A2 : Option Addr) (c0 c1 c2 : Nat) (w : World) (h0 : RdS tSg 32 w P A0 c0 s.segs) (h1 : RdS Ty.bool 1 w P A1 c1 s.held) (h2 : RdS tBlk 40 w P A2 c2 s.opn) (hw : (Lit.int .i64 s.next).wf = true) :
    Calls Try.prog 23 #[.agg #[.slice A0 s.segs.length c0, .slice A1 s.held.length c1, .slice A2 s.opn.length c2, .int .i64 s.next], .int .i64 slot] w fun e w' => ∃ v0 v1 v2, e = .returned (.tuple #[.agg (stCells v0 v1 v2 (frSt s slot).next), .int .i64 (frErr s slot)]) ∧
      tSt.rep w' (fun b => w.heap.size ≤ b) (frSt s slot) [v0, v1, v2, .int .i64 (frSt s slot).next] ∧ Below w.heap.size w w' := by
  have H0 := Lib.hid h0.lt
  have H1 := Lib.hid h1.lt
  have H2 := Lib.hid h2.lt
  clear h0 h1 h2
  go_enter Try.func23, Try.ntmps23
  go_upto_region 1 with fail
  generalize hw0 : (w.alloc (.cells #[.slice A0 s.segs.length c0, .slice A1 s.held.length c1, .slice A2 s.opn.length c2, .int .i64 s.next] 36)).alloc (.cells #[.slice none 0 0, .slice none 0 0, .slice none 0 0, .int .i64 0] 36) = w0
  have hs0 : w0.heap.size = w.heap.size + 2 := by rw [← hw0]; simp
  have hbx : Hid (w0.heap[w.heap.size]? = some (.cells #[.slice A0 s.segs.length c0, .slice A1 s.held.length c1, .slice A2 s.opn.length c2, .int .i64 s.next] 36 (0, 0))) := by rw [← hw0]; exact heap_alloc (heap_alloc_new w _) _
  have hbr : Hid (w0.heap[w.heap.size + 1]? = some (.cells #[.slice none 0 0, .slice none 0 0, .slice none 0 0, .int .i64 0] 36 (0, 0))) := by rw [← hw0]; have := heap_alloc_new (w.alloc (.cells #[.slice A0 s.segs.length c0, .slice A1 s.held.length c1, .slice A2 s.opn.length c2, .int .i64 s.next] 36)) (.cells #[.slice none 0 0, .slice none 0 0, .slice none 0 0, .int .i64 0] 36); exact Lib.hid (by simpa using this)
  have hB0 : Hid (Below w.heap.size w w0) := by rw [← hw0]; exact b_alloc (b_alloc (b_refl _))
  clear hw0
  have x0 := cell_of hbx.out 0 rfl
  have x1 := cell_of hbx.out 1 rfl
  have x2 := cell_of hbx.out 2 rfl
  have x3 := cell_of hbx.out 3 rfl
  go_wp2_with fail
  refine (live_calls s slot A0 A1 A2 c0 c1 c2 w0 (H0.out.below hB0.out) (H2.out.below hB0.out)).mono ?_
  rintro e w1 ⟨v, rfl, hr1, hb1⟩
  obtain ⟨A9, c9, rfl, hc9⟩ := Ty.Row_slice hr1.2
  clear x0 x1 x2 x3 hr1
  have HB1 := Lib.hid (b_call hb1 hB0.out)
  have hbx1 := Lib.hid (heap_below hb1 hbx.out)
  have hbr1 := Lib.hid (heap_below hb1 hbr.out)
  have hs1 := hb1.size
  clear hb1 hbx hbr hB0
  have x0 := cell_of hbx1.out 0 rfl
  have x1 := cell_of hbx1.out 1 rfl
  have x2 := cell_of hbx1.out 2 rfl
  have x3 := cell_of hbx1.out 3 rfl
  have r0 := cell_of hbr1.out 0 rfl
  have r1 := cell_of hbr1.out 1 rfl
  have r2 := cell_of hbr1.out 2 rfl
  have r3 := cell_of hbr1.out 3 rfl
  have z0 := frozen_of hbr1.out 0
  have z1 := frozen_of hbr1.out 1
  have z2 := frozen_of hbr1.out 2
  have z3 := frozen_of hbr1.out 3
  by_cases hE : liveErr s slot = 0
  · cases hL : liveL s slot with
    | cons y ys =>
      have HL := Lib.hid hL
      rw [hL] at hc9
      clear hL
      go_wp2
      refine bodyPost_ret (results_row_tmp _ rfl _ (w.heap.size + 1) 36 #[.slice none 0 0, .slice none 0 0, .slice none 0 0, .int .i64 0] (0, 0) _ rfl ?hg Try.underlying36 rfl (by kernel_rfl)) rfl ?_
      case hg => exact setCell4 hbr1.out
      have e : frErr s slot = 91 := by rw [frErr, if_pos hE, HL.out]; simp
      rw [frSt, e, if_neg (by decide)]
      exact ⟨_, _, _, rfl, zero_rep _ _, b_set (by simp) (b_set (by simp) (b_set (by simp) (b_set (by simp) HB1.out)))⟩
    | nil =>
      have HL := Lib.hid hL
      clear hL
      have hgood : chk s = true := by unfold liveErr at hE; split at hE <;> first | assumption | (exact absurd hE (by decide))
      have G := Lib.hid ((chk_iff s).1 hgood)
      obtain ⟨x, hsl⟩ : ∃ x, slotOf s slot = some x := by
        unfold liveErr at hE
        rw [if_pos hgood] at hE
        cases h : slotOf s slot with
        | none => rw [h] at hE; simp at hE
        | some x => exact ⟨x, rfl⟩
      obtain ⟨k, rfl, hx⟩ : ∃ k : Nat, slot = k ∧ s.segs[k]? = some x := by
        unfold slotOf at hsl
        split at hsl
        · rename_i h
          refine ⟨slot.toNat, by omega, ?_⟩
          split at hsl
          · split at hsl
            · simp at hsl
            · rename_i h2 _; rw [h2]; exact hsl
          · simp at hsl
        · simp at hsl
      have HX := Lib.hid hx
      have hk := idx_lt hx
      have hn := G.out.n64
      have E0 := Lib.hid (show frErr s (k : Int) = 0 by rw [frErr, if_pos hE, if_pos HL.out])
      clear hsl hx
      go_wp2_with fail
      refine (stClone_calls s A0 A1 A2 c0 c1 c2 w1 (H0.out.below HB1.out) (H1.out.below HB1.out) (H2.out.below HB1.out)).mono ?_
      rintro e w2 ⟨v0, v1, v2, n1, n2, n3, rfl, hcl, hb2⟩
      obtain ⟨q0, g0, q1, g1, q2, g2, m0, m1, m2, m3⟩ := hcl
      obtain ⟨D0, d0, rfl, hd0⟩ := Ty.Row_slice q0
      obtain ⟨D1, d1, rfl, hd1⟩ := Ty.Row_slice q1
      obtain ⟨D2, d2, rfl, hd2⟩ := Ty.Row_slice q2.2
      clear x0 x1 x2 x3 r0 r1 r2 r3 z0 z1 z2 z3
      have HB2 := Lib.hid (b_call hb2 HB1.out)
      have hbx2 := Lib.hid (heap_below hb2 hbx1.out)
      have hbr2 := Lib.hid (heap_below hb2 hbr1.out)
      have Q0 := Lib.hid q0
      have Q1 := Lib.hid q1
      have Q2 := Lib.hid q2
      clear hb2 hbx1 hbr1 q0 q1 q2
      have x0 := cell_of hbx2.out 0 rfl
      have x1 := cell_of hbx2.out 1 rfl
      have x2 := cell_of hbx2.out 2 rfl
      have x3 := cell_of hbx2.out 3 rfl
      have y0 := frozen_of hbx2.out 0
      have y1 := frozen_of hbx2.out 1
      have y2 := frozen_of hbx2.out 2
      have y3 := frozen_of hbx2.out 3
      go_upto_region 7 with fail
      generalize hw3 : (((w2.setCell ⟨w.heap.size, 0, none⟩ (.slice D0 s.segs.length d0)).setCell ⟨w.heap.size, 1, none⟩ (.slice D1 s.held.length d1)).setCell ⟨w.heap.size, 2, none⟩ (.slice D2 s.opn.length d2)).setCell ⟨w.heap.size, 3, none⟩ (.int .i64 s.next) = w3
      have hbx3 : Hid (w3.heap[w.heap.size]? = some (.cells #[.slice D0 s.segs.length d0, .slice D1 s.held.length d1, .slice D2 s.opn.length d2, .int .i64 s.next] 36 (0, 0))) := by rw [← hw3]; exact setCell4 hbx2.out
      have F3 : Hid (∀ b, b ≠ w.heap.size → w3.heap[b]? = w2.heap[b]?) := by rw [← hw3]; exact fun b hb => setCell4_other (Ne.symm hb)
      have S3 : w3.heap.size = w2.heap.size := by rw [← hw3]; simp
      have HB3 : Hid (Below w.heap.size w w3) := by rw [← hw3]; exact b_set (by simp) (b_set (by simp) (b_set (by simp) (b_set (by simp) HB2.out)))
      clear hw3 x0 x1 x2 x3 y0 y1 y2 y3 hbx2
      obtain ⟨gg, cc, e1, hg1, hg2, _⟩ := Ty.RowI_form Q0.out (by omega)
      injection e1 with e1 _ e2
      subst e1
      clear e2
      have hgn : gg < n1 := g0 gg rfl
      have hsz := HB2.out.size
      have Q0' := Lib.hid (Ty.RowI_frame Q0.out (fun q hq => F3.out q (by have := (Ty.RowI_lt Q0.out hq).1; omega)) (fun i q _ hq hq2 _ => F3.out q (by omega)))
      have Q1' := Lib.hid (Ty.RowI_frame (Ty.RowI_flat (QI := fun _ _ => False) (fun _ _ _ _ _ _ h => h) Q1.out) (fun q hq => F3.out q (by have := (Ty.RowI_lt Q1.out hq).1; omega)) (fun i q _ hq => hq.elim))
      have Q2' := Lib.hid (Ty.Row_frame Q2.out (fun q hq hq2 => F3.out q (by omega)))
      have hbr3 := Lib.hid ((F3.out (w.heap.size + 1) (by omega)).trans hbr2.out)
      clear Q0 Q1 Q2 hbr2 F3
      obtain ⟨cs, hrep, hcs⟩ := Ty.RowI_at Q0'.out HX.out
      obtain ⟨Ad, cd, rfl, xw, hd⟩ := sg_open hrep
      have HD := Lib.hid hd
      have a0 : w3.cell? ⟨gg, k * 2, none⟩ = _ := (hcs 0 _ rfl).1
      have a1 : w3.cell? ⟨gg, k * 2 + 1, none⟩ = _ := (hcs 1 _ rfl).1
      have f0 : w3.frozen? ⟨gg, k * 2, none⟩ = false := (hcs 0 _ rfl).2
      have f1 : w3.frozen? ⟨gg, k * 2 + 1, none⟩ = false := (hcs 1 _ rfl).2
      have HC := Lib.hid hcs
      clear hrep hcs hd
      have x0 := cell_of hbx3.out 0 rfl
      go_upto_region 8 with fail
      have q1 := Lib.hid (Ty.RowI_set Q0'.out HX.out (x' := ⟨0, x.blocks⟩) (fun j u hu => (HC.out j u hu).1) rfl (Pk := fun _ => True) (j := 0) (by decide) (.int .i64 0)
        (sg_mk (x := ⟨0, x.blocks⟩) rfl (HD.out.mono (fun b hb _ => ⟨trivial, hb.2⟩))))
      generalize hw4 : (w3.setCell ⟨gg, k * 2, none⟩ (.int .i64 0)).setCell ⟨gg, k * 2 + 1, none⟩ (.slice none 0 0) = w4
      have F4 : Hid (∀ b, b ≠ gg → w4.heap[b]? = w3.heap[b]?) := by rw [← hw4]; exact fun b hb => (Below.heap_setCell _ _ _ _ hb).trans (Below.heap_setCell _ _ _ _ hb)
      have S4 : w4.heap.size = w3.heap.size := by rw [← hw4]; simp
      have HB4 : Hid (Below w.heap.size w w4) := by rw [← hw4]; exact b_set (by show w.heap.size ≤ gg; omega) (b_set (by show w.heap.size ≤ gg; omega) HB3.out)
      have Q4 : Hid (tSg.RowI 62 w4 (w1.heap.size + 2) (fun _ b => w1.heap.size + 2 ≤ b) (.slice (some ⟨gg, 0, none⟩) s.segs.length d0) (s.segs.set k ⟨0, []⟩)) := by
        rw [← hw4]
        have hx2 : (s.segs.set k ⟨0, x.blocks⟩)[k]? = some ⟨0, x.blocks⟩ := by rw [List.getElem?_set_self hk]
        obtain ⟨cs2, hrep2, hcs2⟩ := Ty.RowI_at q1.out hx2
        obtain ⟨Ad2, cd2, rfl, _, _⟩ := sg_open hrep2
        have q2 := Ty.RowI_set q1.out hx2 (x' := ⟨0, []⟩) (fun j u hu => (hcs2 j u hu).1) rfl (Pk := fun b => w1.heap.size + 2 ≤ b) (j := 1) (by decide) (.slice none 0 0)
          (sg_mk (x := ⟨0, []⟩) rfl ⟨Nat.le_refl _, Nat.zero_le _, Ty.C_nil⟩)
        rw [List.set_set] at q2
        refine Ty.RowI_mono q2 (fun i b _ hp _ => ?_)
        by_cases e : i = k
        · rw [if_pos e] at hp; exact hp
        · rw [if_neg e, if_neg e] at hp; omega
      clear hw4 a0 a1 f0 f1 q1 x0 HD HC
      have hbx4 := Lib.hid ((F4.out w.heap.size (by omega)).trans hbx3.out)
      have hbr4 := Lib.hid ((F4.out (w.heap.size + 1) (by omega)).trans hbr3.out)
      have Q5 := Lib.hid (Ty.RowI_frame Q1'.out (fun q hq => F4.out q (by have := (Ty.RowI_lt Q1'.out hq).1; omega)) (fun i q _ hq => hq.elim))
      have Q6 := Lib.hid (Ty.Row_frame Q2'.out (fun q hq hq2 => F4.out q (by omega)))
      clear Q0' Q1' Q2' hbx3 hbr3
      have x0 := cell_of hbx4.out 0 rfl
      have x1 := cell_of hbx4.out 1 rfl
      have x2 := cell_of hbx4.out 2 rfl
      have x3 := cell_of hbx4.out 3 rfl
      have r0 := cell_of hbr4.out 0 rfl
      have r1 := cell_of hbr4.out 1 rfl
      have r2 := cell_of hbr4.out 2 rfl
      have r3 := cell_of hbr4.out 3 rfl
      have z0 := frozen_of hbr4.out 0
      have z1 := frozen_of hbr4.out 1
      have z2 := frozen_of hbr4.out 2
      have z3 := frozen_of hbr4.out 3
      go_wp2
      refine bodyPost_ret (results_row_tmp _ rfl _ (w.heap.size + 1) 36 #[.slice (some ⟨gg, 0, none⟩) s.segs.length d0, .slice D1 s.held.length d1, .slice D2 s.opn.length d2, .int .i64 s.next] (0, 0) _ rfl ?hg3 Try.underlying36 rfl (by kernel_rfl)) rfl ?_
      case hg3 => exact setCell4 hbr4.out
      rw [frSt, E0.out, if_pos rfl, freeSt, Int.toNat_natCast]
      refine ⟨_, _, _, rfl, ?_, b_set (by simp) (b_set (by simp) (b_set (by simp) (b_set (by simp) HB4.out)))⟩
      have ho8 := G.out.opn8
      have hhl := G.out.held
      have fr : ∀ b, b ≠ w.heap.size + 1 → ((((w4.setCell ⟨w.heap.size + 1, 0, none⟩ (.slice (some ⟨gg, 0, none⟩) s.segs.length d0)).setCell ⟨w.heap.size + 1, 1, none⟩ (.slice D1 s.held.length d1)).setCell ⟨w.heap.size + 1, 2, none⟩ (.slice D2 s.opn.length d2)).setCell ⟨w.heap.size + 1, 3, none⟩ (.int .i64 s.next)).heap[b]? = w4.heap[b]? := fun b hb => setCell4_other (Ne.symm hb)
      have t0 := Ty.RowI_frame (Ty.RowI_mono (QI := fun _ b => w.heap.size ≤ b ∧ b ≠ w.heap.size + 1) Q4.out (fun i b _ h _ => by omega)) (fun q hq => fr q (by have := (Ty.RowI_lt Q4.out hq).1; omega)) (fun i q _ hq _ _ => fr q hq.2)
      have t1 := Ty.RowI_frame Q5.out (fun q hq => fr q (by have := (Ty.RowI_lt Q5.out hq).1; omega)) (fun i q _ hq => hq.elim)
      have t2 := Ty.Row_frame Q6.out (fun q hq _ => fr q (by omega))
      have r0 : RdS tSg 32 _ (fun b => w.heap.size ≤ b) _ d0 (s.segs.set k ⟨0, []⟩) := rdS_row t0 (fun i b _ h _ => h.1) (fun b hb => by omega) (by simp; unfold reachB; omega)
      have r1 : RdS Ty.bool 1 _ (fun b => w.heap.size ≤ b) D1 d1 s.held := rdS_row t1 (fun i b _ h _ => h.elim) (fun b hb => by omega) (by unfold reachB; omega)
      have r2 : RdS tBlk 40 _ (fun b => w.heap.size ≤ b) D2 d2 s.opn := rdS_row t2.2 (fun i b _ h _ => by omega) (fun b hb => by omega) (by unfold reachB; omega)
      have := st_mk (x := ⟨s.segs.set k ⟨0, []⟩, s.held, s.opn, s.next⟩) r0 r1 r2 hw
      rw [show (St.mk (s.segs.set k ⟨0, []⟩) s.held s.opn s.next).segs.length = s.segs.length from List.length_set] at this
      exact this
  · go_wp2
    refine bodyPost_ret (results_row_tmp _ rfl _ (w.heap.size + 1) 36 #[.slice none 0 0, .slice none 0 0, .slice none 0 0, .int .i64 0] (0, 0) _ rfl ?hg Try.underlying36 rfl (by kernel_rfl)) rfl ?_
    case hg => exact setCell4 hbr1.out
    have e : frErr s slot = liveErr s slot := by rw [frErr, if_neg hE]
    rw [frSt, e, if_neg hE]
    exact ⟨_, _, _, rfl, zero_rep _ _, b_set (by simp) (b_set (by simp) (b_set (by simp) (b_set (by simp) HB1.out)))⟩
end Go.Proofs.Ytfoeddmbhmfjcaa
/- log.Seal. -/
namespace Go.Proofs.Ytfoeddmbhmfjcaa
open Go.RowKit
def sealOk (s : St) (i : Nat) : Bool := match s.segs[i]?, s.held[i]? with | some x, some h => freeB x && !h | _, _ => false
/-- the first slot that is free and not held, from i on -/
def sealAt (s : St) : Option Nat := (List.range s.segs.length).find? (sealOk s)
def slErr (s : St) : Int := if chk s = true then (if s.opn.length = 0 then 71 else match sealAt s with | none => 51 | some _ => if s.next = 1099511627776 then 51 else 0) else 9
def slAt (s : St) : Nat := if slErr s = 0 then (sealAt s).getD 0 else 0
def sealSt (s : St) (k : Nat) : St := ⟨s.segs.set k ⟨s.next, s.opn⟩, s.held, [], s.next + 1⟩
def slSt (s : St) : St := if slErr s = 0 then sealSt s (slAt s) else St.zero
theorem sealAt_some {s : St} {k : Nat} (hk : k < s.segs.length) (h1 : sealOk s k = true) (h2 : ∀ i, i < k → sealOk s i = false) : sealAt s = some k := by
  unfold sealAt
  rw [List.find?_range_eq_some]
  exact ⟨h1, List.mem_range.2 hk, fun j hj => by simp [h2 j hj]⟩
theorem sealAt_none {s : St} (h2 : ∀ i, i < s.segs.length → sealOk s i = false) : sealAt s = none := by
  unfold sealAt
  rw [List.find?_eq_none]
  intro i hi
  rw [h2 i (List.mem_range.1 hi)]
  simp
theorem wf_i64 {n : Int} (h1 : -9223372036854775808 ≤ n) (h2 : n ≤ 9223372036854775807) : (Lit.int .i64 n).wf = true := by
  show (decide (IntKind.min .i64 ≤ n) && decide (n ≤ IntKind.max .i64)) = true
  rw [show IntKind.min .i64 = -9223372036854775808 from rfl, show IntKind.max .i64 = 9223372036854775807 from rfl]
  simp [h1, h2]
theorem sealAt_lt {s : St} {k : Nat} (h : sealAt s = some k) : k < s.segs.length := by
  unfold sealAt at h
  exact List.mem_range.1 (List.mem_of_find?_eq_some h)
def slotV : Option Nat → Int
  | none => -1
  | some k => k
set_option maxRecDepth 100000 in
set_option maxHeartbeats 2000000 in
theorem seal_calls {P : Nat → Prop} (s : St) (A0 A1 A2 : Option Addr) (c0 c1 c2 : Nat) (w : World) (h0 : RdS tSg 32 w P A0 c0 s.segs) (h1 : RdS Ty.bool 1 w P A1 c1 s.held) (h2 : RdS tBlk 40 w P A2 c2 s.opn) (hw : (Lit.int .i64 s.next).wf = true) :
    Calls Try.prog 19 #[.agg #[.slice A0 s.segs.length c0, .slice A1 s.held.length c1, .slice A2 s.opn.length c2, .int .i64 s.next]] w fun e w' => ∃ v0 v1 v2, e = .returned (.tuple #[.agg (stCells v0 v1 v2 (slSt s).next), .int .i64 (slAt s), .int .i64 (slErr s)]) ∧
      tSt.rep w' (fun b => w.heap.size ≤ b) (slSt s) [v0, v1, v2, .int .i64 (slSt s).next] ∧ Below w.heap.size w w' := by
  have H0 := Lib.hid h0.lt
  have H1 := Lib.hid h1.lt
  have H2 := Lib.hid h2.lt
  clear h0 h1 h2
  go_enter Try.func19, Try.ntmps19
  go_upto_region 1 with fail
  generalize hw0 : (w.alloc (.cells #[.slice A0 s.segs.length c0, .slice A1 s.held.length c1, .slice A2 s.opn.length c2, .int .i64 s.next] 36)).alloc (.cells #[.slice none 0 0, .slice none 0 0, .slice none 0 0, .int .i64 0] 36) = w0
  have hs0 : w0.heap.size = w.heap.size + 2 := by rw [← hw0]; simp
  have hbx : Hid (w0.heap[w.heap.size]? = some (.cells #[.slice A0 s.segs.length c0, .slice A1 s.held.length c1, .slice A2 s.opn.length c2, .int .i64 s.next] 36 (0, 0))) := by rw [← hw0]; exact heap_alloc (heap_alloc_new w _) _
  have hbr : Hid (w0.heap[w.heap.size + 1]? = some (.cells #[.slice none 0 0, .slice none 0 0, .slice none 0 0, .int .i64 0] 36 (0, 0))) := by rw [← hw0]; have := heap_alloc_new (w.alloc (.cells #[.slice A0 s.segs.length c0, .slice A1 s.held.length c1, .slice A2 s.opn.length c2, .int .i64 s.next] 36)) (.cells #[.slice none 0 0, .slice none 0 0, .slice none 0 0, .int .i64 0] 36); exact Lib.hid (by simpa using this)
  have hB0 : Hid (Below w.heap.size w w0) := by rw [← hw0]; exact b_alloc (b_alloc (b_refl _))
  clear hw0
  have x0 := cell_of hbx.out 0 rfl
  have x1 := cell_of hbx.out 1 rfl
  have x2 := cell_of hbx.out 2 rfl
  have x3 := cell_of hbx.out 3 rfl
  go_wp2_with fail
  refine (check_calls s A0 A1 A2 c0 c1 c2 w0 (H0.out.below hB0.out) (H2.out.below hB0.out)).mono ?_
  rintro e w1 ⟨rfl, hb1⟩
  clear x0 x1 x2 x3
  have HB1 := Lib.hid (b_call hb1 hB0.out)
  have hbx1 := Lib.hid (heap_below hb1 hbx.out)
  have hbr1 := Lib.hid (heap_below hb1 hbr.out)
  have hs1 := hb1.size
  clear hb1 hbx hbr hB0
  cases hchk : chk s with
  | false =>
    have hc := Lib.hid hchk
    clear hchk
    have e9 := errOf_f hc.out
    have r0 := cell_of hbr1.out 0 rfl
    have r1 := cell_of hbr1.out 1 rfl
    have r2 := cell_of hbr1.out 2 rfl
    have r3 := cell_of hbr1.out 3 rfl
    have z0 := frozen_of hbr1.out 0
    have z1 := frozen_of hbr1.out 1
    have z2 := frozen_of hbr1.out 2
    have z3 := frozen_of hbr1.out 3
    go_wp2
    refine bodyPost_ret (results_row_tmp2 _ rfl _ (w.heap.size + 1) 36 #[.slice none 0 0, .slice none 0 0, .slice none 0 0, .int .i64 0] (0, 0) _ rfl ?hg Try.underlying36 rfl (by kernel_rfl)) rfl ?_
    case hg => exact setCell4 hbr1.out
    have e : slErr s = 9 := by rw [slErr, hc.out]; simp
    rw [slSt, slAt, e, if_neg (by decide), if_neg (by decide)]
    exact ⟨_, _, _, rfl, zero_rep _ _, b_set (by simp) (b_set (by simp) (b_set (by simp) (b_set (by simp) HB1.out)))⟩
  | true =>
    have hc := Lib.hid hchk
    have G := Lib.hid ((chk_iff s).1 hchk)
    have hl0 := G.out.n64
    have hl2 := G.out.opn8
    have hlh := Lib.hid G.out.held
    clear hchk
    have e9 : errOf true = 0 := rfl
    have e10 : (errOf true != 0) = false := rfl
    have x0 := cell_of hbx1.out 0 rfl
    have x1 := cell_of hbx1.out 1 rfl
    have x2 := cell_of hbx1.out 2 rfl
    have x3 := cell_of hbx1.out 3 rfl
    by_cases hop : s.opn.length = 0
    · have r0 := cell_of hbr1.out 0 rfl
      have r1 := cell_of hbr1.out 1 rfl
      have r2 := cell_of hbr1.out 2 rfl
      have r3 := cell_of hbr1.out 3 rfl
      have z0 := frozen_of hbr1.out 0
      have z1 := frozen_of hbr1.out 1
      have z2 := frozen_of hbr1.out 2
      have z3 := frozen_of hbr1.out 3
      go_wp2
      refine bodyPost_ret (results_row_tmp2 _ rfl _ (w.heap.size + 1) 36 #[.slice none 0 0, .slice none 0 0, .slice none 0 0, .int .i64 0] (0, 0) _ rfl ?hg2 Try.underlying36 rfl (by kernel_rfl)) rfl ?_
      case hg2 => exact setCell4 hbr1.out
      have e : slErr s = 71 := by rw [slErr, hc.out, if_pos rfl, if_pos hop]
      rw [slSt, slAt, e, if_neg (by decide), if_neg (by decide)]
      exact ⟨_, _, _, rfl, zero_rep _ _, b_set (by simp) (b_set (by simp) (b_set (by simp) (b_set (by simp) HB1.out)))⟩
    · have e11 : ((s.opn.length : Int) == 0) = false := by simpa using hop
      go_upto_block 0 with fail
      go_cut [6] (fun s6 wx => s6 = .int .i64 (slotV (sealAt s)) ∧ Hid (Below w1.heap.size w1 wx))
      case first =>
        go_wp2_with fail
        go_loopg [6, 23] s.segs.length (fun g v6 i wr => ∃ k : Nat, k ≤ s.segs.length ∧ g = s.segs.length - k ∧ v6 = .int .i64 (-1) ∧ i = .int .i64 k ∧ (∀ j, j < k → sealOk s j = false) ∧ Hid (Below w1.heap.size w1 wr))
        case atStart => exact ⟨0, Nat.zero_le _, rfl, rfl, rfl, fun j hj => absurd hj (Nat.not_lt_zero _), b_refl _⟩
        case round =>
          obtain ⟨k, hk, rfl, rfl, rfl, hno, hb⟩ := hrel
          clear x0 x1 x2 x3
          by_cases hlt : k < s.segs.length
          · obtain ⟨x, hx⟩ : ∃ x, s.segs[k]? = some x := ⟨_, List.getElem?_eq_getElem hlt⟩
            obtain ⟨hh, hhx⟩ : ∃ x, s.held[k]? = some x := ⟨_, List.getElem?_eq_getElem (by rw [hlh.out]; exact hlt)⟩
            obtain ⟨b, off, Ad, cd, rfl, hPb, z0, z1, hd, xw⟩ := (H0.out.below (b_call hb.out HB1.out)).sgAt hx
            obtain ⟨b1, off1, rfl, hPb1, z2⟩ := (H1.out.below (b_call hb.out HB1.out)).boolAt hhx
            have hlt2 : k < s.held.length := by rw [hlh.out]; exact hlt
            have hl1 : s.held.length ≤ 64 := by rw [hlh.out]; exact hl0
            have HO := Lib.hid (show sealOk s k = (freeB x && !hh) by simp [sealOk, hx, hhx])
            clear hx hhx hd
            go_wp2_with fail
            refine (free_calls x Ad cd _).mono ?_
            rintro e w2 ⟨rfl, hb2⟩
            have HB2 := Lib.hid (b_call hb2 (b_alloc hb.out) : Below w1.heap.size w1 w2)
            have hbx2 := Lib.hid (heap_below HB2.out hbx1.out)
            have z2' := cell_below hb2 (cell_below (b_alloc (b_refl _)) z2)
            clear hb2 z0 z1 z2
            have x1 := cell_of hbx2.out 1 rfl
            have HN := Lib.hid hno
            clear hno
            generalize hfb : freeB x = fb at HO
            have HFB := Lib.hid hfb
            clear hfb
            cases fb
            · go_wp2
              go_roundg (s.segs.length - (k + 1))
              case measure => omega
              case rel => exact ⟨k + 1, by omega, rfl, rfl, by go_num, fun j hj => by by_cases e : j = k; · rw [e, HO.out]; rfl
                                                                                      · exact HN.out j (by omega), HB2.out⟩
            · cases hh
              · go_wp2
                go_meet
                case rel => exact ⟨by rw [sealAt_some hlt (by rw [HO.out]; rfl) HN.out]; rfl, HB2.out⟩
              · go_wp2
                go_roundg (s.segs.length - (k + 1))
                case measure => omega
                case rel => exact ⟨k + 1, by omega, rfl, rfl, by go_num, fun j hj => by by_cases e : j = k; · rw [e, HO.out]; rfl
                                                                                        · exact HN.out j (by omega), HB2.out⟩
          · go_wp2
            go_meet
            case rel => exact ⟨by rw [sealAt_none (fun i hi => hno i (by omega))]; rfl, hb.out⟩
      case rest =>
        obtain ⟨rfl, hb⟩ := hcut
        obtain ⟨W, hW⟩ : ∃ W, W = wc := ⟨_, rfl⟩
        subst hW
        have HBW := Lib.hid (b_call hb.out HB1.out)
        have hbxW := Lib.hid (heap_below hb.out hbx1.out)
        have hbrW := Lib.hid (heap_below hb.out hbr1.out)
        have hsW := hb.out.size
        clear x0 x1 x2 x3 hb hbx1 hbr1 HB1
        have x0 := cell_of hbxW.out 0 rfl
        have x1 := cell_of hbxW.out 1 rfl
        have x2 := cell_of hbxW.out 2 rfl
        have x3 := cell_of hbxW.out 3 rfl
        have r0 := cell_of hbrW.out 0 rfl
        have r1 := cell_of hbrW.out 1 rfl
        have r2 := cell_of hbrW.out 2 rfl
        have r3 := cell_of hbrW.out 3 rfl
        have z0 := frozen_of hbrW.out 0
        have z1 := frozen_of hbrW.out 1
        have z2 := frozen_of hbrW.out 2
        have z3 := frozen_of hbrW.out 3
        cases hsa : sealAt s with
        | none =>
          have HS := Lib.hid hsa
          clear hsa
          have e12 : slotV none = -1 := rfl
          go_wp2
          refine bodyPost_ret (results_row_tmp2 _ rfl _ (w.heap.size + 1) 36 #[.slice none 0 0, .slice none 0 0, .slice none 0 0, .int .i64 0] (0, 0) _ rfl ?hg4 Try.underlying36 rfl (by kernel_rfl)) rfl ?_
          case hg4 => exact setCell4 hbrW.out
          have e : slErr s = 51 := by rw [slErr, hc.out, if_pos rfl, if_neg hop, HS.out]
          rw [slSt, slAt, e, if_neg (by decide), if_neg (by decide)]
          exact ⟨_, _, _, rfl, zero_rep _ _, b_set (by simp) (b_set (by simp) (b_set (by simp) (b_set (by simp) HBW.out)))⟩
        | some k =>
          have HS := Lib.hid hsa
          clear hsa
          have e12 : slotV (some k) = (k : Int) := rfl
          by_cases hmx : s.next = 1099511627776
          · go_wp2
            refine bodyPost_ret (results_row_tmp2 _ rfl _ (w.heap.size + 1) 36 #[.slice none 0 0, .slice none 0 0, .slice none 0 0, .int .i64 0] (0, 0) _ rfl ?hg5 Try.underlying36 rfl (by kernel_rfl)) rfl ?_
            case hg5 => exact setCell4 hbrW.out
            have e : slErr s = 51 := by rw [slErr, hc.out, if_pos rfl, if_neg hop, HS.out]; simp [hmx]
            rw [slSt, slAt, e, if_neg (by decide), if_neg (by decide)]
            exact ⟨_, _, _, rfl, zero_rep _ _, b_set (by simp) (b_set (by simp) (b_set (by simp) (b_set (by simp) HBW.out)))⟩
          · have e13 : (s.next == 1099511627776) = false := by simpa using hmx
            go_wp2_with fail
            refine (stClone_calls s A0 A1 A2 c0 c1 c2 W (H0.out.below HBW.out) (H1.out.below HBW.out) (H2.out.below HBW.out)).mono ?_
            rintro e w2 ⟨v0, v1, v2, n1, n2, n3, rfl, hcl, hb2⟩
            obtain ⟨q0, g0, q1, g1, q2, g2, m0, m1, m2, m3⟩ := hcl
            obtain ⟨D0, d0, rfl, hd0⟩ := Ty.Row_slice q0
            obtain ⟨D1, d1, rfl, hd1⟩ := Ty.Row_slice q1
            obtain ⟨D2, d2, rfl, hd2⟩ := Ty.Row_slice q2.2
            clear x0 x1 x2 x3 r0 r1 r2 r3 z0 z1 z2 z3
            have HB2 := Lib.hid (b_call hb2 HBW.out)
            have hbx2 := Lib.hid (heap_below hb2 hbxW.out)
            have hbr2 := Lib.hid (heap_below hb2 hbrW.out)
            have Q0 := Lib.hid q0
            have Q1 := Lib.hid q1
            have Q2 := Lib.hid q2
            clear hb2 hbxW hbrW q0 q1 q2
            have x0 := cell_of hbx2.out 0 rfl
            have x1 := cell_of hbx2.out 1 rfl
            have x2 := cell_of hbx2.out 2 rfl
            have x3 := cell_of hbx2.out 3 rfl
            have y0 := frozen_of hbx2.out 0
            have y1 := frozen_of hbx2.out 1
            have y2 := frozen_of hbx2.out 2
            have y3 := frozen_of hbx2.out 3
            go_upto_region 16 with fail
            generalize hw3 : (((w2.setCell ⟨w.heap.size, 0, none⟩ (.slice D0 s.segs.length d0)).setCell ⟨w.heap.size, 1, none⟩ (.slice D1 s.held.length d1)).setCell ⟨w.heap.size, 2, none⟩ (.slice D2 s.opn.length d2)).setCell ⟨w.heap.size, 3, none⟩ (.int .i64 s.next) = w3
            have hk := sealAt_lt HS.out
            obtain ⟨x, hx⟩ : ∃ x, s.segs[k]? = some x := ⟨_, List.getElem?_eq_getElem hk⟩
            have HX := Lib.hid hx
            have hbx3 : Hid (w3.heap[w.heap.size]? = some (.cells #[.slice D0 s.segs.length d0, .slice D1 s.held.length d1, .slice D2 s.opn.length d2, .int .i64 s.next] 36 (0, 0))) := by rw [← hw3]; exact setCell4 hbx2.out
            have F3 : Hid (∀ b, b ≠ w.heap.size → w3.heap[b]? = w2.heap[b]?) := by rw [← hw3]; exact fun b hb => setCell4_other (Ne.symm hb)
            have S3 : w3.heap.size = w2.heap.size := by rw [← hw3]; simp
            have HB3 : Hid (Below w.heap.size w w3) := by rw [← hw3]; exact b_set (by simp) (b_set (by simp) (b_set (by simp) (b_set (by simp) HB2.out)))
            clear hw3 x0 x1 x2 x3 y0 y1 y2 y3 hbx2 hx
            obtain ⟨gg, cc, e1, hg1, hg2, _⟩ := Ty.RowI_form Q0.out (by omega)
            injection e1 with e1 _ e2
            subst e1
            clear e2
            have hgn : gg < n1 := g0 gg rfl
            have hsz := HB2.out.size
            have Q0' := Lib.hid (Ty.RowI_frame Q0.out (fun q hq => F3.out q (by have := (Ty.RowI_lt Q0.out hq).1; omega)) (fun i q _ hq hq2 _ => F3.out q (by omega)))
            have Q1' := Lib.hid (Ty.RowI_frame (Ty.RowI_flat (QI := fun _ _ => False) (fun _ _ _ _ _ _ h => h) Q1.out) (fun q hq => F3.out q (by have := (Ty.RowI_lt Q1.out hq).1; omega)) (fun i q _ hq => hq.elim))
            have Q2' := Lib.hid (Ty.Row_frame Q2.out (fun q hq hq2 => F3.out q (by omega)))
            have hbr3 := Lib.hid ((F3.out (w.heap.size + 1) (by omega)).trans hbr2.out)
            clear Q0 Q1 Q2 hbr2 F3
            obtain ⟨cs, hrep, hcs⟩ := Ty.RowI_at Q0'.out HX.out
            obtain ⟨Ad, cd, rfl, xw, hd⟩ := sg_open hrep
            have HD := Lib.hid hd
            have a0 : w3.cell? ⟨gg, k * 2, none⟩ = _ := (hcs 0 _ rfl).1
            have a1 : w3.cell? ⟨gg, k * 2 + 1, none⟩ = _ := (hcs 1 _ rfl).1
            have f0 : w3.frozen? ⟨gg, k * 2, none⟩ = false := (hcs 0 _ rfl).2
            have f1 : w3.frozen? ⟨gg, k * 2 + 1, none⟩ = false := (hcs 1 _ rfl).2
            have HC := Lib.hid hcs
            clear hrep hcs hd
            have x0 := cell_of hbx3.out 0 rfl
            have x2 := cell_of hbx3.out 2 rfl
            have x3 := cell_of hbx3.out 3 rfl
            go_upto_region 17 with fail
            have q1 := Lib.hid (Ty.RowI_set Q0'.out HX.out (x' := ⟨s.next, x.blocks⟩) (fun j u hu => (HC.out j u hu).1) rfl (Pk := fun _ => True) (j := 0) (by decide) (.int .i64 s.next)
              (sg_mk (x := ⟨s.next, x.blocks⟩) hw (HD.out.mono (fun b hb _ => ⟨trivial, hb.2⟩))))
            generalize hw4 : (w3.setCell ⟨gg, k * 2, none⟩ (.int .i64 s.next)).setCell ⟨gg, k * 2 + 1, none⟩ (.slice D2 s.opn.length d2) = w4
            have F4 : Hid (∀ b, b ≠ gg → w4.heap[b]? = w3.heap[b]?) := by rw [← hw4]; exact fun b hb => (Below.heap_setCell _ _ _ _ hb).trans (Below.heap_setCell _ _ _ _ hb)
            have S4 : w4.heap.size = w3.heap.size := by rw [← hw4]; simp
            have HB4 : Hid (Below w.heap.size w w4) := by rw [← hw4]; exact b_set (by show w.heap.size ≤ gg; omega) (b_set (by show w.heap.size ≤ gg; omega) HB3.out)
            have D2r : RdS tBlk 40 w3 (fun b => W.heap.size + 2 ≤ b ∧ b ≠ gg) D2 d2 s.opn := rdS_row Q2'.out.2 (fun i b _ h _ => by omega) (fun b hb => by omega) (by unfold reachB; omega)
            have Q4 : Hid (tSg.RowI 62 w4 (W.heap.size + 2) (fun _ b => W.heap.size + 2 ≤ b) (.slice (some ⟨gg, 0, none⟩) s.segs.length d0) (s.segs.set k ⟨s.next, s.opn⟩)) := by
              rw [← hw4]
              have hx2 : (s.segs.set k ⟨s.next, x.blocks⟩)[k]? = some ⟨s.next, x.blocks⟩ := by rw [List.getElem?_set_self hk]
              obtain ⟨cs2, hrep2, hcs2⟩ := Ty.RowI_at q1.out hx2
              obtain ⟨Ad2, cd2, rfl, _, _⟩ := sg_open hrep2
              have q2 := Ty.RowI_set q1.out hx2 (x' := ⟨s.next, s.opn⟩) (fun j u hu => (hcs2 j u hu).1) rfl (Pk := fun b => W.heap.size + 2 ≤ b) (j := 1) (by decide) (.slice D2 s.opn.length d2)
                (sg_mk (x := ⟨s.next, s.opn⟩) hw ⟨D2r.1, D2r.2.1, Ty.C_frame (fun b hb _ => Below.heap_setCell _ _ _ _ hb.2) D2r.2.2⟩)
              rw [List.set_set] at q2
              refine Ty.RowI_mono q2 (fun i b _ hp _ => ?_)
              by_cases e : i = k
              · rw [if_pos e] at hp; exact hp
              · rw [if_neg e, if_neg e] at hp; omega
            clear hw4 a0 a1 f0 f1 q1 x0 x2 x3 HD HC D2r
            have hbx4 := Lib.hid ((F4.out w.heap.size (by omega)).trans hbx3.out)
            have hbr4 := Lib.hid ((F4.out (w.heap.size + 1) (by omega)).trans hbr3.out)
            have Q5 := Lib.hid (Ty.RowI_frame Q1'.out (fun q hq => F4.out q (by have := (Ty.RowI_lt Q1'.out hq).1; omega)) (fun i q _ hq => hq.elim))
            clear Q0' Q1' Q2' hbx3 hbr3
            have x0 := cell_of hbx4.out 0 rfl
            have x1 := cell_of hbx4.out 1 rfl
            have x2 := cell_of hbx4.out 2 rfl
            have x3 := cell_of hbx4.out 3 rfl
            have y2 := frozen_of hbx4.out 2
            have y3 := frozen_of hbx4.out 3
            have r0 := cell_of hbr4.out 0 rfl
            have r1 := cell_of hbr4.out 1 rfl
            have r2 := cell_of hbr4.out 2 rfl
            have r3 := cell_of hbr4.out 3 rfl
            have z0 := frozen_of hbr4.out 0
            have z1 := frozen_of hbr4.out 1
            have z2 := frozen_of hbr4.out 2
            have z3 := frozen_of hbr4.out 3
            have hmN := G.out.nextM
            have hmN1 := G.out.next1
            go_wp2
            have hbr5 : Hid ((((w4.setCell ⟨w.heap.size, 2, none⟩ (.slice none 0 0)).setCell ⟨w.heap.size, 3, none⟩ (.int .i64 (s.next + 1))).heap[w.heap.size + 1]?) = some (.cells #[.slice none 0 0, .slice none 0 0, .slice none 0 0, .int .i64 0] 36 (0, 0))) :=
              (Below.heap_setCell _ _ _ _ (by simp)).trans ((Below.heap_setCell _ _ _ _ (by simp)).trans hbr4.out)
            generalize hw5 : (w4.setCell ⟨w.heap.size, 2, none⟩ (.slice none 0 0)).setCell ⟨w.heap.size, 3, none⟩ (.int .i64 (s.next + 1)) = w5 at hbr5
            have F5 : ∀ b, b ≠ w.heap.size → w5.heap[b]? = w4.heap[b]? := by rw [← hw5]; exact fun b hb => (Below.heap_setCell _ _ _ _ hb).trans (Below.heap_setCell _ _ _ _ hb)
            have HB5 : Hid (Below w.heap.size w w5) := by rw [← hw5]; exact b_set (by simp) (b_set (by simp) HB4.out)
            clear hw5
            refine bodyPost_ret (results_row_tmp2 _ rfl _ (w.heap.size + 1) 36 #[.slice (some ⟨gg, 0, none⟩) s.segs.length d0, .slice D1 s.held.length d1, .slice none 0 0, .int .i64 (s.next + 1)] (0, 0) _ rfl ?hg6 Try.underlying36 rfl (by kernel_rfl)) rfl ?_
            case hg6 => exact setCell4 hbr5.out
            have e : slErr s = 0 := by rw [slErr, hc.out, if_pos rfl, if_neg hop, HS.out]; simp [hmx]
            have ek : slAt s = k := by rw [slAt, e, if_pos rfl, HS.out]; rfl
            rw [slSt, e, if_pos rfl, ek, sealSt]
            refine ⟨_, _, _, rfl, ?_, b_set (by simp) (b_set (by simp) (b_set (by simp) (b_set (by simp) HB5.out)))⟩
            have fr : ∀ b, b ≠ w.heap.size → b ≠ w.heap.size + 1 → ((((w5.setCell ⟨w.heap.size + 1, 0, none⟩ (.slice (some ⟨gg, 0, none⟩) s.segs.length d0)).setCell ⟨w.heap.size + 1, 1, none⟩ (.slice D1 s.held.length d1)).setCell ⟨w.heap.size + 1, 2, none⟩ (.slice none 0 0)).setCell ⟨w.heap.size + 1, 3, none⟩ (.int .i64 (s.next + 1))).heap[b]? = w4.heap[b]? := fun b h1 h2 => (setCell4_other (Ne.symm h2)).trans (F5 b h1)
            have t0 := Ty.RowI_frame (Ty.RowI_mono (QI := fun _ b => w.heap.size + 2 ≤ b) Q4.out (fun i b _ h _ => by omega)) (fun q hq => fr q (by have := (Ty.RowI_lt Q4.out hq).1; omega) (by have := (Ty.RowI_lt Q4.out hq).1; omega)) (fun i q _ hq _ _ => fr q (by omega) (by omega))
            have t1 := Ty.RowI_frame Q5.out (fun q hq => fr q (by have := (Ty.RowI_lt Q5.out hq).1; omega) (by have := (Ty.RowI_lt Q5.out hq).1; omega)) (fun i q _ hq => hq.elim)
            have hh := hlh.out
            have r0 : RdS tSg 32 _ (fun b => w.heap.size ≤ b) _ d0 (s.segs.set k ⟨s.next, s.opn⟩) := rdS_row t0 (fun i b _ h _ => by omega) (fun b hb => by omega) (by simp; unfold reachB; omega)
            have r1 : RdS Ty.bool 1 _ (fun b => w.heap.size ≤ b) D1 d1 s.held := rdS_row t1 (fun i b _ h _ => h.elim) (fun b hb => by omega) (by unfold reachB; omega)
            have hwn : (Lit.int .i64 (s.next + 1)).wf = true := wf_i64 (by omega) (by omega)
            have := st_mk (A2 := none) (c2 := 0) (x := ⟨s.segs.set k ⟨s.next, s.opn⟩, s.held, [], s.next + 1⟩) r0 r1 ⟨Nat.le_refl _, Nat.zero_le _, Ty.C_nil⟩ hwn
            rw [show (St.mk (s.segs.set k ⟨s.next, s.opn⟩) s.held [] (s.next + 1)).segs.length = s.segs.length from List.length_set] at this
            exact this
end Go.Proofs.Ytfoeddmbhmfjcaa
/- log.Put. -/
namespace Go.Proofs.Ytfoeddmbhmfjcaa
open Go.RowKit
def putErr (s : St) (b : Blk) : Int := if chk s = true then (if mayBlk b = true then (if s.opn.length = 8 then 51 else 0) else 1) else 9
def putSt (s : St) (b : Blk) : St := if putErr s b = 0 then ⟨s.segs, s.held, s.opn ++ [b], s.next⟩ else St.zero
set_option maxRecDepth 100000 in
set_option maxHeartbeats 2000000 in
theorem put_calls {P : Nat → Prop} (s : St) (b : Blk) (A0 A1 A2 Ab : Option Addr) (c0 c1 c2 cb : Nat) (w : World) (h0 : RdS tSg 32 w P A0 c0 s.segs) (h1 : RdS Ty.bool 1 w P A1 c1 s.held) (h2 : RdS tBlk 40 w P A2 c2 s.opn) (hw : (Lit.int .i64 s.next).wf = true)
    (hb1 : (Lit.int .i64 b.own).wf = true) (hb2 : (Lit.int .i64 b.idx).wf = true) (h3 : RdS (Ty.int .u8) 1 w P Ab cb b.data) :
    Calls Try.prog 30 #[.agg #[.slice A0 s.segs.length c0, .slice A1 s.held.length c1, .slice A2 s.opn.length c2, .int .i64 s.next], .agg #[.int .i64 b.own, .int .i64 b.idx, .slice Ab b.data.length cb]] w fun e w' => ∃ v0 v1 v2, e = .returned (.tuple #[.agg (stCells v0 v1 v2 (putSt s b).next), .int .i64 (putErr s b)]) ∧
      tSt.rep w' (fun b => w.heap.size ≤ b) (putSt s b) [v0, v1, v2, .int .i64 (putSt s b).next] ∧ Below w.heap.size w w' := by
  have H0 := Lib.hid h0.lt
  have H1 := Lib.hid h1.lt
  have H2 := Lib.hid h2.lt
  have H3 := Lib.hid h3.lt
  clear h0 h1 h2 h3
  go_enter Try.func30, Try.ntmps30
  go_upto_region 1 with fail
  generalize hw0 : ((w.alloc (.cells #[.slice A0 s.segs.length c0, .slice A1 s.held.length c1, .slice A2 s.opn.length c2, .int .i64 s.next] 36)).alloc (.cells #[.int .i64 b.own, .int .i64 b.idx, .slice Ab b.data.length cb] 57)).alloc (.cells #[.slice none 0 0, .slice none 0 0, .slice none 0 0, .int .i64 0] 36) = w0
  have hs0 : w0.heap.size = w.heap.size + 3 := by rw [← hw0]; simp
  have hbx : Hid (w0.heap[w.heap.size]? = some (.cells #[.slice A0 s.segs.length c0, .slice A1 s.held.length c1, .slice A2 s.opn.length c2, .int .i64 s.next] 36 (0, 0))) := by rw [← hw0]; exact heap_alloc (heap_alloc (heap_alloc_new w _) _) _
  have hbb : Hid (w0.heap[w.heap.size + 1]? = some (.cells #[.int .i64 b.own, .int .i64 b.idx, .slice Ab b.data.length cb] 57 (0, 0))) := by
    rw [← hw0]
    have := heap_alloc_new (w.alloc (.cells #[.slice A0 s.segs.length c0, .slice A1 s.held.length c1, .slice A2 s.opn.length c2, .int .i64 s.next] 36)) (.cells #[.int .i64 b.own, .int .i64 b.idx, .slice Ab b.data.length cb] 57)
    exact heap_alloc (by simpa using this) _
  have hbr : Hid (w0.heap[w.heap.size + 1 + 1]? = some (.cells #[.slice none 0 0, .slice none 0 0, .slice none 0 0, .int .i64 0] 36 (0, 0))) := by
    rw [← hw0]
    have := heap_alloc_new ((w.alloc (.cells #[.slice A0 s.segs.length c0, .slice A1 s.held.length c1, .slice A2 s.opn.length c2, .int .i64 s.next] 36)).alloc (.cells #[.int .i64 b.own, .int .i64 b.idx, .slice Ab b.data.length cb] 57)) (.cells #[.slice none 0 0, .slice none 0 0, .slice none 0 0, .int .i64 0] 36)
    exact Lib.hid (by simpa using this)
  have hB0 : Hid (Below w.heap.size w w0) := by rw [← hw0]; exact b_alloc (b_alloc (b_alloc (b_refl _)))
  clear hw0
  have x0 := cell_of hbx.out 0 rfl
  have x1 := cell_of hbx.out 1 rfl
  have x2 := cell_of hbx.out 2 rfl
  have x3 := cell_of hbx.out 3 rfl
  go_wp2_with fail
  refine (check_calls s A0 A1 A2 c0 c1 c2 w0 (H0.out.below hB0.out) (H2.out.below hB0.out)).mono ?_
  rintro e w1 ⟨rfl, hb1'⟩
  clear x0 x1 x2 x3
  have HB1 := Lib.hid (b_call hb1' hB0.out)
  have hbx1 := Lib.hid (heap_below hb1' hbx.out)
  have hbb1 := Lib.hid (heap_below hb1' hbb.out)
  have hbr1 := Lib.hid (heap_below hb1' hbr.out)
  have hs1 := hb1'.size
  clear hb1' hbx hbr hbb hB0
  cases hchk : chk s with
  | false =>
    have hc := Lib.hid hchk
    clear hchk
    have e9 : errOf false = 9 := rfl
    have e10 : (errOf false != 0) = true := rfl
    have r0 := cell_of hbr1.out 0 rfl
    have r1 := cell_of hbr1.out 1 rfl
    have r2 := cell_of hbr1.out 2 rfl
    have r3 := cell_of hbr1.out 3 rfl
    have z0 := frozen_of hbr1.out 0
    have z1 := frozen_of hbr1.out 1
    have z2 := frozen_of hbr1.out 2
    have z3 := frozen_of hbr1.out 3
    go_wp2
    refine bodyPost_ret (results_row_tmp _ rfl _ (w.heap.size + 1 + 1) 36 #[.slice none 0 0, .slice none 0 0, .slice none 0 0, .int .i64 0] (0, 0) _ rfl ?hg Try.underlying36 rfl (by kernel_rfl)) rfl ?_
    case hg => exact setCell4 hbr1.out
    have e : putErr s b = 9 := by rw [putErr, hc.out]; simp
    rw [putSt, e, if_neg (by decide)]
    exact ⟨_, _, _, rfl, zero_rep _ _, b_set (by simp; omega) (b_set (by simp; omega) (b_set (by simp; omega) (b_set (by simp; omega) HB1.out)))⟩
  | true =>
    have hc := Lib.hid hchk
    have G := Lib.hid ((chk_iff s).1 hchk)
    have hl0 := G.out.n64
    have hl2 := G.out.opn8
    have hlh := Lib.hid G.out.held
    clear hchk
    have e9 : errOf true = 0 := rfl
    have e10 : (errOf true != 0) = false := rfl
    have y0 := cell_of hbb1.out 0 rfl
    have y1 := cell_of hbb1.out 1 rfl
    have y2 := cell_of hbb1.out 2 rfl
    go_wp2_with fail
    refine (may_calls b.own b.idx Ab b.data.length cb w1).mono ?_
    rintro e w2 ⟨rfl, hb2'⟩
    clear y0 y1 y2
    have HB2 := Lib.hid (b_call hb2' HB1.out)
    have hbx2 := Lib.hid (heap_below hb2' hbx1.out)
    have hbb2 := Lib.hid (heap_below hb2' hbb1.out)
    have hbr2 := Lib.hid (heap_below hb2' hbr1.out)
    have hs2 := hb2'.size
    clear hb2' hbx1 hbb1 hbr1 HB1
    have r0 := cell_of hbr2.out 0 rfl
    have r1 := cell_of hbr2.out 1 rfl
    have r2 := cell_of hbr2.out 2 rfl
    have r3 := cell_of hbr2.out 3 rfl
    have z0 := frozen_of hbr2.out 0
    have z1 := frozen_of hbr2.out 1
    have z2 := frozen_of hbr2.out 2
    have z3 := frozen_of hbr2.out 3
    have x0 := cell_of hbx2.out 0 rfl
    have x1 := cell_of hbx2.out 1 rfl
    have x2 := cell_of hbx2.out 2 rfl
    have x3 := cell_of hbx2.out 3 rfl
    cases hmy : mayB b.own b.idx b.data.length with
    | false =>
      have HM := Lib.hid (show mayBlk b = false from hmy)
      clear hmy
      go_wp2
      refine bodyPost_ret (results_row_tmp _ rfl _ (w.heap.size + 1 + 1) 36 #[.slice none 0 0, .slice none 0 0, .slice none 0 0, .int .i64 0] (0, 0) _ rfl ?hg2 Try.underlying36 rfl (by kernel_rfl)) rfl ?_
      case hg2 => exact setCell4 hbr2.out
      have e : putErr s b = 1 := by rw [putErr, hc.out, if_pos rfl, HM.out]; simp
      rw [putSt, e, if_neg (by decide)]
      exact ⟨_, _, _, rfl, zero_rep _ _, b_set (by simp; omega) (b_set (by simp; omega) (b_set (by simp; omega) (b_set (by simp; omega) HB2.out)))⟩
    | true =>
      have HM := Lib.hid (show mayBlk b = true from hmy)
      clear hmy
      by_cases hop : s.opn.length = 8
      · go_wp2
        refine bodyPost_ret (results_row_tmp _ rfl _ (w.heap.size + 1 + 1) 36 #[.slice none 0 0, .slice none 0 0, .slice none 0 0, .int .i64 0] (0, 0) _ rfl ?hg3 Try.underlying36 rfl (by kernel_rfl)) rfl ?_
        case hg3 => exact setCell4 hbr2.out
        have e : putErr s b = 51 := by rw [putErr, hc.out, if_pos rfl, HM.out, if_pos rfl, if_pos hop]
        rw [putSt, e, if_neg (by decide)]
        exact ⟨_, _, _, rfl, zero_rep _ _, b_set (by simp; omega) (b_set (by simp; omega) (b_set (by simp; omega) (b_set (by simp; omega) HB2.out)))⟩
      · have e11 : ((s.opn.length : Int) == 8) = false := by simp; omega
        go_wp2_with fail
        refine (stClone_calls s A0 A1 A2 c0 c1 c2 w2 (H0.out.below HB2.out) (H1.out.below HB2.out) (H2.out.below HB2.out)).mono ?_
        rintro e w3 ⟨v0, v1, v2, n1, n2, n3, rfl, hcl, hb3⟩
        obtain ⟨q0, g0, q1, g1, q2, g2, m0, m1, m2, m3⟩ := hcl
        obtain ⟨D0, d0, rfl, hd0⟩ := Ty.Row_slice q0
        obtain ⟨D1, d1, rfl, hd1⟩ := Ty.Row_slice q1
        obtain ⟨D2, d2, rfl, hd2⟩ := Ty.Row_slice q2.2
        clear x0 x1 x2 x3 r0 r1 r2 r3 z0 z1 z2 z3
        have HB3 := Lib.hid (b_call hb3 HB2.out)
        have hbx3 := Lib.hid (heap_below hb3 hbx2.out)
        have hbb3 := Lib.hid (heap_below hb3 hbb2.out)
        have hbr3 := Lib.hid (heap_below hb3 hbr2.out)
        have Q0 := Lib.hid q0
        have Q1 := Lib.hid q1
        have Q2 := Lib.hid q2
        clear hb3 hbx2 hbb2 hbr2 q0 q1 q2
        have x0 := cell_of hbx3.out 0 rfl
        have x1 := cell_of hbx3.out 1 rfl
        have x2 := cell_of hbx3.out 2 rfl
        have x3 := cell_of hbx3.out 3 rfl
        have y0 := frozen_of hbx3.out 0
        have y1 := frozen_of hbx3.out 1
        have y2 := frozen_of hbx3.out 2
        have y3 := frozen_of hbx3.out 3
        have b2 := cell_of hbb3.out 2 rfl
        go_upto_region 9 with fail
        generalize hw4 : (((w3.setCell ⟨w.heap.size, 0, none⟩ (.slice D0 s.segs.length d0)).setCell ⟨w.heap.size, 1, none⟩ (.slice D1 s.held.length d1)).setCell ⟨w.heap.size, 2, none⟩ (.slice D2 s.opn.length d2)).setCell ⟨w.heap.size, 3, none⟩ (.int .i64 s.next) = w4
        have hbx4 : Hid (w4.heap[w.heap.size]? = some (.cells #[.slice D0 s.segs.length d0, .slice D1 s.held.length d1, .slice D2 s.opn.length d2, .int .i64 s.next] 36 (0, 0))) := by rw [← hw4]; exact setCell4 hbx3.out
        have F4 : Hid (∀ b, b ≠ w.heap.size → w4.heap[b]? = w3.heap[b]?) := by rw [← hw4]; exact fun b hb => setCell4_other (Ne.symm hb)
        have S4 : w4.heap.size = w3.heap.size := by rw [← hw4]; simp
        have HB4 : Hid (Below w.heap.size w w4) := by rw [← hw4]; exact b_set (by simp) (b_set (by simp) (b_set (by simp) (b_set (by simp) HB3.out)))
        clear hw4 x0 x1 x2 x3 y0 y1 y2 y3 hbx3 b2
        have hsz := HB3.out.size
        have Q0' := Lib.hid (Ty.RowI_frame Q0.out (fun q hq => F4.out q (by have := (Ty.RowI_lt Q0.out hq).1; omega)) (fun i q _ hq hq2 _ => F4.out q (by omega)))
        have Q1' := Lib.hid (Ty.RowI_frame (Ty.RowI_flat (QI := fun _ _ => False) (fun _ _ _ _ _ _ h => h) Q1.out) (fun q hq => F4.out q (by have := (Ty.RowI_lt Q1.out hq).1; omega)) (fun i q _ hq => hq.elim))
        have Q2' := Lib.hid (Ty.Row_frame Q2.out (fun q hq hq2 => F4.out q (by omega)))
        have hbr4 := Lib.hid ((F4.out (w.heap.size + 1 + 1) (by omega)).trans hbr3.out)
        have hbb4 := Lib.hid ((F4.out (w.heap.size + 1) (by omega)).trans hbb3.out)
        clear Q0 Q1 Q2 hbr3 hbb3 F4
        have b2 := cell_of hbb4.out 2 rfl
        go_wp2_with fail
        refine (bytesClone_calls Ab cb b.data w4 (H3.out.below HB4.out)).mono ?_
        rintro e w5 ⟨v5, rfl, q5, hb5⟩
        obtain ⟨D5, d5, rfl, hd5⟩ := Ty.Row_slice q5
        clear b2
        have HB5 := Lib.hid (b_call hb5 HB4.out)
        have hbx5 := Lib.hid (heap_below hb5 hbx4.out)
        have hbb5 := Lib.hid (heap_below hb5 hbb4.out)
        have hbr5 := Lib.hid (heap_below hb5 hbr4.out)
        have Q0 := Lib.hid (Ty.RowI_below Q0'.out hb5)
        have Q1 := Lib.hid (Ty.RowI_below Q1'.out hb5)
        have Q2 := Lib.hid (Ty.Row_below Q2'.out hb5)
        have Q5 := Lib.hid q5
        have hs5 := hb5.size
        clear hb5 hbx4 hbb4 hbr4 q5 Q0' Q1' Q2'
        have y2 := cell_of hbb5.out 2 rfl
        have f2 := frozen_of hbb5.out 2
        go_upto_region 10 with fail
        generalize hw6 : w5.setCell ⟨w.heap.size + 1, 2, none⟩ (.slice D5 b.data.length d5) = w6
        have hbb6 : Hid (w6.heap[w.heap.size + 1]? = some (.cells #[.int .i64 b.own, .int .i64 b.idx, .slice D5 b.data.length d5] 57 (0, 0))) := by rw [← hw6]; exact Ty.setCell_heap hbb5.out 2 _
        have F6 : Hid (∀ b, b ≠ w.heap.size + 1 → w6.heap[b]? = w5.heap[b]?) := by rw [← hw6]; exact fun b hb => Below.heap_setCell _ _ _ _ hb
        have S6 : w6.heap.size = w5.heap.size := by rw [← hw6]; simp
        have HB6 : Hid (Below w.heap.size w w6) := by rw [← hw6]; exact b_set (by simp) HB5.out
        clear hw6 y2 f2 hbb5
        have Q0' := Lib.hid (Ty.RowI_frame Q0.out (fun q hq => F6.out q (by have := (Ty.RowI_lt Q0.out hq).1; omega)) (fun i q _ hq hq2 _ => F6.out q (by omega)))
        have Q1' := Lib.hid (Ty.RowI_frame Q1.out (fun q hq => F6.out q (by have := (Ty.RowI_lt Q1.out hq).1; omega)) (fun i q _ hq => hq.elim))
        have Q2' := Lib.hid (Ty.Row_frame Q2.out (fun q hq hq2 => F6.out q (by omega)))
        have Q5' := Lib.hid (Ty.RowI_frame (Ty.RowI_flat (QI := fun _ _ => False) (fun _ _ _ _ _ _ h => h) Q5.out) (fun q hq => F6.out q (by have := (Ty.RowI_lt Q5.out hq).1; omega)) (fun i q _ hq => hq.elim))
        have hbx6 := Lib.hid ((F6.out w.heap.size (by omega)).trans hbx5.out)
        have hbr6 := Lib.hid ((F6.out (w.heap.size + 1 + 1) (by omega)).trans hbr5.out)
        clear Q0 Q1 Q2 Q5 hbx5 hbr5 F6
        have R5 : Hid (RdS (Ty.int .u8) 1 w6 (fun k => w4.heap.size ≤ k) D5 d5 b.data) := rdS_row Q5'.out (fun i k _ h _ => h.elim) (fun k hk => hk) H3.out.2.1
        have S6' := Lib.hid S6
        clear S6
        have b0 := cell_of hbb6.out 0 rfl
        have b1 := cell_of hbb6.out 1 rfl
        have b2 := cell_of hbb6.out 2 rfl
        have x2 := cell_of hbx6.out 2 rfl
        go_wp2_with (at_builtin; refine Ty.wpList_append_Row (T := tBlk) (e := 57) (t := 34) (B := n2) (PI := fun _ k => n2 ≤ k) (Pn := fun k => w4.heap.size ≤ k) (xs := s.opn) (ys := [b]) (A := some ⟨w6.heap.size, 0, none⟩) (c := 1) rfl (.tmp 31) (.tmp 33) rfl (z := (.agg #[.int .i64 0, .int .i64 0, .slice none 0 0])) (bytes := 40) Try.underlying34 info57 rfl (by decide) rfl rfl ?aO ?aR ?aN ?aB ?aL ?_)
        case aO => exact Ty.RowI_below Q2'.out.2 (b_alloc (b_refl _))
        case aR => exact Ty.CC_one (Ty.below (blk_mk hb1 hb2 R5.out) (b_alloc (b_refl _))) (fun i u hu => by
          rw [Nat.zero_add]
          exact cell_of (heap_alloc_new w6 _) i (by simpa using hu))
        case aN => intro k h1 _ e; have := g2 k e.symm; omega
        case aB => have := S6'.out; simp; omega
        case aL => simp; omega
        intro v7 w7 hr7 hg7 hat7
        obtain ⟨D7, d7, rfl, hd7⟩ := Ty.Row_slice hr7
        have S6 := S6'.out
        have hD2 : ∀ q, (Value.slice D2 s.opn.length d2).ownBlock = some q → n2 ≤ q := fun q hq => (Ty.RowI_lt Q2'.out.2 hq).1
        have F7 : Hid (∀ q, q < w6.heap.size → (q < n2 ∨ n3 ≤ q) → w7.heap[q]? = w6.heap[q]?) := fun q h1 h2 => (hg7.block q (by simp; omega) (fun e => by have := hD2 q e.symm; have := g2 q e.symm; omega)).trans (Below.heap_alloc _ _ _ h1)
        have HB7 : Hid (Below w.heap.size w w7) := (b_alloc HB6.out).trans (grown_below hg7 (by simp; omega) (fun q hq => by have := hD2 q hq; omega))
        have hs7 : w6.heap.size ≤ w7.heap.size := by have := hg7.size; simp at this; omega
        have hbx7 := Lib.hid ((F7.out w.heap.size (by omega) (by omega)).trans hbx6.out)
        have hbr7 := Lib.hid ((F7.out (w.heap.size + 1 + 1) (by omega) (by omega)).trans hbr6.out)
        have Q0 := Lib.hid (Ty.RowI_frame Q0'.out (fun q hq => F7.out q (Ty.RowI_lt Q0'.out hq).2 (by have := g0 q hq; omega)) (fun i q _ hq hq2 _ => F7.out q hq2 (by omega)))
        have Q1 := Lib.hid (Ty.RowI_frame Q1'.out (fun q hq => F7.out q (Ty.RowI_lt Q1'.out hq).2 (by have := g1 q hq; omega)) (fun i q _ hq => hq.elim))
        have Q7 := Lib.hid hr7
        clear b0 b1 b2 x2 hbx6 hbr6 hbb6 hg7 hr7 F7 Q0' Q1' Q2' Q5'
        have x0 := cell_of hbx7.out 0 rfl
        have x1 := cell_of hbx7.out 1 rfl
        have x2 := cell_of hbx7.out 2 rfl
        have x3 := cell_of hbx7.out 3 rfl
        have y2 := frozen_of hbx7.out 2
        have r0 := cell_of hbr7.out 0 rfl
        have r1 := cell_of hbr7.out 1 rfl
        have r2 := cell_of hbr7.out 2 rfl
        have r3 := cell_of hbr7.out 3 rfl
        have z0 := frozen_of hbr7.out 0
        have z1 := frozen_of hbr7.out 1
        have z2 := frozen_of hbr7.out 2
        have z3 := frozen_of hbr7.out 3
        have hlen : ∃ ln, Hid ((s.opn ++ [b]).length = ln) := ⟨_, rfl⟩
        obtain ⟨ln, hlen⟩ := hlen
        rw [hlen.out] at hd7
        have hrw : Value.slice D7 (s.opn ++ [b]).length d7 = .slice D7 ln d7 := by rw [hlen.out]
        rw [hrw] at Q7 ⊢
        clear hrw
        go_wp2
        have EL : ln = s.opn.length + 1 := by rw [← hlen.out]; simp
        generalize hw8 : w7.setCell ⟨w.heap.size, 2, none⟩ (.slice D7 ln d7) = w8
        have F8 : ∀ q, q ≠ w.heap.size → w8.heap[q]? = w7.heap[q]? := by rw [← hw8]; exact fun q hq => Below.heap_setCell _ _ _ _ hq
        have hbr8 := Lib.hid ((F8 (w.heap.size + 1 + 1) (by omega)).trans hbr7.out)
        have HB8 : Hid (Below w.heap.size w w8) := by rw [← hw8]; exact b_set (by simp) HB7.out
        clear hw8
        refine bodyPost_ret (results_row_tmp _ rfl _ (w.heap.size + 1 + 1) 36 #[.slice D0 s.segs.length d0, .slice D1 s.held.length d1, .slice D7 ln d7, .int .i64 s.next] (0, 0) _ rfl ?hg7 Try.underlying36 rfl (by kernel_rfl)) rfl ?_
        case hg7 => exact setCell4 hbr8.out
        have e : putErr s b = 0 := by rw [putErr, hc.out, if_pos rfl, HM.out, if_pos rfl, if_neg hop]
        rw [putSt, e, if_pos rfl]
        refine ⟨_, _, _, rfl, ?_, b_set (by simp; omega) (b_set (by simp; omega) (b_set (by simp; omega) (b_set (by simp; omega) HB8.out)))⟩
        have fr : ∀ q, q ≠ w.heap.size → q ≠ w.heap.size + 1 + 1 → ((((w8.setCell ⟨w.heap.size + 1 + 1, 0, none⟩ (.slice D0 s.segs.length d0)).setCell ⟨w.heap.size + 1 + 1, 1, none⟩ (.slice D1 s.held.length d1)).setCell ⟨w.heap.size + 1 + 1, 2, none⟩ (.slice D7 ln d7)).setCell ⟨w.heap.size + 1 + 1, 3, none⟩ (.int .i64 s.next)).heap[q]? = w7.heap[q]? := fun q h1 h2 => (setCell4_other (Ne.symm h2)).trans (F8 q h1)
        have t0 := Ty.RowI_frame Q0.out (fun q hq => fr q (by have := (Ty.RowI_lt Q0.out hq).1; omega) (by have := (Ty.RowI_lt Q0.out hq).1; omega)) (fun i q _ hq _ _ => fr q (by omega) (by omega))
        have t1 := Ty.RowI_frame Q1.out (fun q hq => fr q (by have := (Ty.RowI_lt Q1.out hq).1; omega) (by have := (Ty.RowI_lt Q1.out hq).1; omega)) (fun i q _ hq => hq.elim)
        have Q8 := Ty.RowI_mono (QI := fun _ k => n2 ≤ k) Q7.out (fun i k _ h _ => by split at h <;> omega)
        have t2 := Ty.RowI_frame Q8 (fun q hq => fr q (by have := (Ty.RowI_lt Q8 hq).1; omega) (by have := (Ty.RowI_lt Q8 hq).1; omega)) (fun i q _ hq _ _ => fr q (by omega) (by omega))
        have hh := hlh.out
        have k0 : RdS tSg 32 _ (fun b => w.heap.size ≤ b) _ d0 s.segs := rdS_row t0 (fun i b _ h _ => by omega) (fun b hb => by omega) (by unfold reachB; omega)
        have k1 : RdS Ty.bool 1 _ (fun b => w.heap.size ≤ b) D1 d1 s.held := rdS_row t1 (fun i b _ h _ => h.elim) (fun b hb => by omega) (by unfold reachB; omega)
        have k2 : RdS tBlk 40 _ (fun b => w.heap.size ≤ b) D7 d7 (s.opn ++ [b]) := rdS_row t2 (fun i b _ h _ => by omega) (fun b hb => by omega) (by rw [hlen.out]; unfold reachB; omega)
        have := st_mk (x := ⟨s.segs, s.held, s.opn ++ [b], s.next⟩) k0 k1 k2 hw
        rw [show (St.mk s.segs s.held (s.opn ++ [b]) s.next).opn.length = ln from hlen.out] at this
        exact this
end Go.Proofs.Ytfoeddmbhmfjcaa
/- log.Get. -/
namespace Go.Proofs.Ytfoeddmbhmfjcaa
open Go.RowKit
def getB (s : St) (o i : Int) : List Int := if chk s = true then ((versOf s).ver (o, i)).data else []
def getIs (s : St) (o i : Int) : Bool := decide (0 < (getB s o i).length)
theorem segsN_out {s : St} : ∀ k j, j ∉ (segsN s k).keys → (segsN s k).ver j = Ver.zero := by
  have hn : ∀ (seq : Int) (l : List Blk) (q : Vers), (∀ j, j ∉ q.keys → q.ver j = Ver.zero) → ∀ k j, j ∉ (noteN seq l q k).keys → (noteN seq l q k).ver j = Ver.zero := by
    intro seq l q h k
    induction k with
    | zero => exact h
    | succ k ih =>
      intro j hj
      simp only [noteN] at hj ⊢
      split
      · rename_i b hb
        rw [hb] at hj
        have h1 : j ∉ (noteN seq l q k).keys := fun h2 => hj (keyAdd_mono h2)
        have h2 : j ≠ kindOf b := fun h2 => hj (mem_keyAdd.2 (.inr h2))
        simp only [noteStep, if_neg h2]
        exact ih j h1
      · rename_i hb
        rw [hb] at hj
        exact ih j hj
  intro k
  induction k with
  | zero => intro j _; rfl
  | succ k ih =>
    intro j hj
    simp only [segsN] at hj ⊢
    split
    · rename_i x hx
      rw [hx] at hj
      exact hn _ _ _ ih _ j hj
    · rename_i hx
      rw [hx] at hj
      exact ih j hj
set_option maxRecDepth 100000 in
set_option maxHeartbeats 2000000 in
theorem get_calls {P : Nat → Prop} (s : St) (o i : Int) (A0 A1 A2 : Option Addr) (c0 c1 c2 : Nat) (w : World) (h0 : RdS tSg 32 w P A0 c0 s.segs) (h2 : RdS tBlk 40 w P A2 c2 s.opn) :
    Calls Try.prog 41 #[.agg #[.slice A0 s.segs.length c0, .slice A1 s.held.length c1, .slice A2 s.opn.length c2, .int .i64 s.next], .int .i64 o, .int .i64 i] w fun e w' => ∃ v, e = .returned (.tuple #[v, .bool (getIs s o i), .int .i64 (errOf (chk s))]) ∧
      (Ty.int .u8).RowI 5 w' w.heap.size (fun _ _ => False) v (getB s o i) ∧ Below w.heap.size w w' := by
  have H0 := Lib.hid h0.lt
  have H2 := Lib.hid h2.lt
  clear h0 h2
  go_enter Try.func41, Try.ntmps41
  go_upto_region 1 with fail
  have hbx := Lib.hid (heap_alloc_new w (.cells #[.slice A0 s.segs.length c0, .slice A1 s.held.length c1, .slice A2 s.opn.length c2, .int .i64 s.next] 36))
  have hB0 : Hid (Below w.heap.size w (w.alloc (.cells #[.slice A0 s.segs.length c0, .slice A1 s.held.length c1, .slice A2 s.opn.length c2, .int .i64 s.next] 36))) := (Below.refl _ _).alloc (Nat.le_refl _) _
  generalize w.alloc (.cells #[.slice A0 s.segs.length c0, .slice A1 s.held.length c1, .slice A2 s.opn.length c2, .int .i64 s.next] 36) = w0 at *
  have x0 := cell_of hbx.out 0 rfl
  have x1 := cell_of hbx.out 1 rfl
  have x2 := cell_of hbx.out 2 rfl
  have x3 := cell_of hbx.out 3 rfl
  go_wp2_with fail
  refine (check_calls s A0 A1 A2 c0 c1 c2 w0 (H0.out.below hB0.out) (H2.out.below hB0.out)).mono ?_
  rintro e w1 ⟨rfl, hb1⟩
  have HB1 := Lib.hid (b_call hb1 hB0.out)
  have hbx1 := Lib.hid (heap_below hb1 hbx.out)
  clear x0 x1 x2 x3 hb1 hbx hB0
  cases hchk : chk s with
  | false =>
    have hc := Lib.hid hchk
    clear hchk
    have e9 : errOf false = 9 := rfl
    have e10 : (errOf false != 0) = true := rfl
    go_wp2
    refine bodyPost_ret (results_tmp3 rfl _ _ _) rfl ?_
    have e : getB s o i = [] := by rw [getB, hc.out]; simp
    rw [getIs, e, hc.out]
    exact ⟨_, rfl, Ty.RowI_nil _ _ _ _ _, HB1.out⟩
  | true =>
    have hc := Lib.hid hchk
    have G := Lib.hid ((chk_iff s).1 hchk)
    clear hchk
    have e9 : errOf true = 0 := rfl
    have e10 : (errOf true != 0) = false := rfl
    have x0 := cell_of hbx1.out 0 rfl
    have x1 := cell_of hbx1.out 1 rfl
    have x2 := cell_of hbx1.out 2 rfl
    have x3 := cell_of hbx1.out 3 rfl
    go_wp2_with fail
    refine (versions_calls s A0 A1 A2 c0 c1 c2 w1 (H0.out.below HB1.out) (H2.out.below HB1.out) G.out.blocks8 G.out.n64 G.out.opn8).mono ?_
    rintro e w2 ⟨rfl, ⟨pt, hm⟩, hb2⟩
    have HB2 := Lib.hid (b_call hb2 HB1.out)
    clear x0 x1 x2 x3 hb2
    have hlk := lookup_vers hm o i
    have hgb : getB s o i = ((versOf s).ver (o, i)).data := by rw [getB, hc.out]; simp
    by_cases hmem : (o, i) ∈ (versOf s).keys
    · rw [if_pos hmem] at hlk
      obtain ⟨A5, c5, hrec, hrd⟩ := hm.at_ _ hmem
      generalize pt (o, i) = n at hrec hlk
      generalize (versOf s).ver (o, i) = v at hrec hrd hgb
      have HG := Lib.hid hgb
      have HR := Lib.hid hrd
      have v2 := cell_of hrec 2 rfl
      clear hrec hrd hgb hm
      by_cases hz : v.data.length = 0
      · have ez : ((v.data.length : Int) == 0) = true := by simpa using hz
        go_wp2
        refine bodyPost_ret (results_tmp3 rfl _ _ _) rfl ?_
        have e : getB s o i = [] := by rw [HG.out]; exact List.length_eq_zero_iff.1 hz
        rw [getIs, e, hc.out]
        exact ⟨_, rfl, Ty.RowI_nil _ _ _ _ _, HB2.out⟩
      · have ez : ((v.data.length : Int) == 0) = false := by simpa using hz
        go_wp2_with fail
        refine (bytesClone_calls A5 c5 v.data w2 HR.out).mono ?_
        rintro e w3 ⟨v5, rfl, q5, hb3⟩
        go_wp2
        refine bodyPost_ret (results_tmp3 rfl _ _ _) rfl ?_
        rw [getIs, HG.out, decide_eq_true (by omega : 0 < v.data.length), hc.out]
        exact ⟨_, rfl, Ty.RowI_low (Ty.RowI_flat (fun _ _ _ _ _ _ h => h) q5) HB2.out.size, b_call hb3 HB2.out⟩
    · rw [if_neg hmem] at hlk
      have ho := hm.out _ hmem
      have HO := Lib.hid (show getB s o i = [] by rw [hgb, ho]; rfl)
      clear hm ho hgb
      go_wp2
      refine bodyPost_ret (results_tmp3 rfl _ _ _) rfl ?_
      rw [getIs, HO.out, hc.out]
      exact ⟨_, rfl, Ty.RowI_nil _ _ _ _ _, HB2.out⟩
end Go.Proofs.Ytfoeddmbhmfjcaa
