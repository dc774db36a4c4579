/- Merged texts: IG, IK, IL, IM, BX, IN, NJ, HB, HC, HF, IO, HD, HE, IA, BG, HY, HZ, BI, HG, HH, HI, HJ, NK, HK. -/
import Derived.Test.YtonglhkiobibgaaGreatDoorX3
import Derived.Shelf.Abstract
import Derived.Shelf.RegionOpen
import Derived.WalkKit
import Derived.OwnWalkIn
import Derived.TacticsInMore
import Derived.LoopNIn
import Derived.LoopIn
import Derived.Lib.Hide
import Derived.Test.YtonglhkiobibgaaGreatDoorX1
import Derived.Test.YtonglhkiobibgaaGreatDoorProg
import Derived.Lib.Bytealg
set_option linter.unusedSimpArgs false
set_option linter.unusedVariables false
namespace Go.Proofs.YtonglhkiobibgaaGreatDoor
open Go.RowKit Go.Shelf Go.Sort
attribute [local go_sem] Oper.semAt_some
set_option maxRecDepth 100000
theorem cellOf {w : World} {b : Nat} {cs : Array Value} {e : TypeId} {f : Nat × Nat} (h : w.heap[b]? = some (.cells cs e f)) (j : Nat) {v : Value} (hj : cs[j]? = some v) : w.cell? ⟨b, j, none⟩ = some v := by simp [World.cell?, h, hj]
theorem frozenOf {w : World} {b : Nat} {cs : Array Value} {e : TypeId} (h : w.heap[b]? = some (.cells cs e (0, 0))) (j : Nat) : w.frozen? ⟨b, j, none⟩ = false := by simp [World.frozen?, h]
theorem listChoose {α : Type} {Q : Nat → α → Prop} : ∀ n, (∀ i, i < n → ∃ x, Q i x) → ∃ l : List α, l.length = n ∧ ∀ (i : Nat) x, l[i]? = some x → Q i x
  | 0, _ => ⟨[], rfl, fun i x h => by simp at h⟩
  | n + 1, h => by
    obtain ⟨l, h1, h2⟩ := listChoose n (fun i hi => h i (by omega))
    obtain ⟨x, hx⟩ := h n (by omega)
    refine ⟨l ++ [x], by simp [h1], fun i y hy => ?_⟩
    rcases Nat.lt_or_ge i n with hi | hi
    · rw [List.getElem?_append_left (by omega)] at hy; exact h2 i y hy
    · rw [List.getElem?_append_right (by omega), h1] at hy
      have : i - n = 0 := by
        rcases Nat.eq_zero_or_pos (i - n) with h9 | h9
        · exact h9
        · rw [List.getElem?_eq_none_iff.2 (by simp; omega)] at hy; cases hy
      rw [this] at hy
      cases hy
      obtain rfl : i = n := by omega
      exact hx
/-- a block's two cells -/
abbrev EntF := {x : Nat × (Option Addr × Nat × Nat) // x.1 < 1000}
instance : Inhabited EntF := ⟨⟨(0, none, 0, 0), by decide⟩⟩
def encF (x : EntF) : List Value := [.int .i64 (x.1.1 : Int), .slice x.1.2.1 x.1.2.2.1 x.1.2.2.2]
def cfF (x y : EntF) : Int := (x.1.1 : Int) - (y.1.1 : Int)
set_option maxHeartbeats 2000000 in
theorem cmpF_calls (x y : EntF) (W : World) : Calls Tryz.prog 179 #[.agg (encF x).toArray, .agg (encF y).toArray] W fun e w' => e = .returned (.int .i64 (cfF x y)) ∧ ∃ q os', w' = Sort.grow (W.drewN q) os' := by
  obtain ⟨⟨x1, xa, xn, xc⟩, hx⟩ := x
  obtain ⟨⟨y1, ya, yn, yc⟩, hy⟩ := y
  simp only [encF, cfF]
  have hwr : Go.RowKit.wrap64 ((x1 : Int) - (y1 : Int)) = (x1 : Int) - (y1 : Int) := by
    have e0 : ∀ x : Int, Go.RowKit.wrap64 x = IntKind.i64.wrap x := fun x => by simp [Go.RowKit.wrap64, IntKind.wrap_i64]
    simp only at hx hy
    rw [e0, wrap64 (by omega)]
  have HW := Lib.hid hwr
  clear hwr
  go_enter Tryz.func179, Tryz.ntmps179
  go_upto_region 1 with fail
  have hx : Hid (((W.alloc (.cells #[.int .i64 x1, .slice xa xn xc] 183)).alloc (.cells #[.int .i64 y1, .slice ya yn yc] 183)).heap[W.heap.size]? = some (.cells #[.int .i64 x1, .slice xa xn xc] 183 (0, 0))) :=
    (Below.heap_alloc _ _ _ (by simp)).trans (heap_alloc_new W _)
  have hy : Hid (((W.alloc (.cells #[.int .i64 x1, .slice xa xn xc] 183)).alloc (.cells #[.int .i64 y1, .slice ya yn yc] 183)).heap[W.heap.size + 1]? = some (.cells #[.int .i64 y1, .slice ya yn yc] 183 (0, 0))) := by
    have := heap_alloc_new (W.alloc (.cells #[.int .i64 x1, .slice xa xn xc] 183)) (.cells #[.int .i64 y1, .slice ya yn yc] 183)
    rwa [World.size_alloc] at this
  have hg : Hid (((W.alloc (.cells #[.int .i64 x1, .slice xa xn xc] 183)).alloc (.cells #[.int .i64 y1, .slice ya yn yc] 183)) = Sort.grow W #[.cells #[.int .i64 x1, .slice xa xn xc] 183, .cells #[.int .i64 y1, .slice ya yn yc] 183]) := by
    show _ = _
    rw [Sort.alloc_eq_grow, Sort.alloc_eq_grow, Sort.grow_grow]; rfl
  generalize (W.alloc (.cells #[.int .i64 x1, .slice xa xn xc] 183)).alloc (.cells #[.int .i64 y1, .slice ya yn yc] 183) = w2 at *
  have x0 := cellOf hx.out 0 rfl
  have y0 := cellOf hy.out 0 rfl
  have e9 := HW.out
  go_wp2
  refine bodyPost_ret (results_tmp rfl _ _ _) rfl ?_
  refine ⟨rfl, 0, #[.cells #[.int .i64 x1, .slice xa xn xc] 183, .cells #[.int .i64 y1, .slice ya yn yc] 183], ?_⟩
  rw [hg.out]; rfl
theorem cmpF_lays (blk off size : Nat) (w : World) : CmpLays Tryz.prog 179 #[] encF 2 cfF blk off size w := fun m os dk _ x y => cmpF_calls x y _
theorem ltF (x y : EntF) : ltOf cfF x y = decide (x.1.1 < y.1.1) := by
  unfold ltOf cfF
  simp only [decide_eq_decide]
  omega
theorem swoF : Sort.SWO (ltOf cfF) where
  irrefl x := by rw [ltF]; simp
  trans x y z h1 h2 := by rw [ltF] at *; simp at *; omega
  ntrans x y z h1 h2 := by rw [ltF] at *; simp at *; omega
/-- lists that rise and have the same elements are one -/
theorem rise_unique {α : Type} (f : α → Int) : ∀ {l m : List α}, l.Perm m → l.Pairwise (fun x y => f x < f y) → m.Pairwise (fun x y => f x ≤ f y) → l = m
  | [], m, h, _, _ => by rw [List.nil_perm] at h; exact h.symm
  | x :: l, [], h, _, _ => by simp at h
  | x :: l, y :: m, h, h1, h2 => by
    rw [List.pairwise_cons] at h1 h2
    have e : x = y := by
      rcases List.mem_cons.1 (h.mem_iff.1 (List.mem_cons_self (a := x) (l := l))) with e | hx
      · exact e
      · rcases List.mem_cons.1 (h.mem_iff.2 (List.mem_cons_self (a := y) (l := m))) with e | hy
        · exact e.symm
        · have := h1.1 y hy
          have := h2.1 x hx
          omega
    subst e
    rw [rise_unique f (List.perm_cons x |>.1 h) h1.2 h2.2]
theorem sortF_cells {w : World} {blk : Nat} {cs : Array Value} {e : TypeId} {fl : Nat × Nat} (hb : w.heap[blk]? = some (.cells cs e fl)) (n : Nat) (d : Array EntF) (os : Array Obj) :
    (sortWorldK encF 2 w blk 0 n d os).heap[blk]? = some (.cells (putCells id 0 (flatK encF 2 d) cs) e fl) ∧ ∀ b, b < w.heap.size → b ≠ blk → (sortWorldK encF 2 w blk 0 n d os).heap[b]? = w.heap[b]? := by
  have hlt := (Array.getElem?_eq_some_iff.1 hb).1
  have e1 : (sortWorldK encF 2 w blk 0 n d os).heap = (w.heap.modify blk (onCells (putCells id 0 (flatK encF 2 d)))) ++ os := rfl
  constructor
  · rw [e1, Array.getElem?_append_left (by simpa using hlt), Array.getElem?_modify, if_pos rfl, hb]; rfl
  · intro b h1 h2
    rw [e1, Array.getElem?_append_left (by simpa using h1), Array.getElem?_modify, if_neg (fun e => h2 e.symm)]
theorem permMap {α β : Type} (f : α → β) : ∀ {m m' : List β}, m.Perm m' → ∀ l : List α, l.map f = m → ∃ l' : List α, l'.Perm l ∧ l'.map f = m' := by
  intro m m' h
  induction h with
  | nil => exact fun l hl => ⟨l, .refl l, hl⟩
  | cons x _ ih =>
    intro l hl
    cases l with
    | nil => cases hl
    | cons a l =>
      simp only [List.map_cons, List.cons.injEq] at hl
      obtain ⟨l', h1, h2⟩ := ih l hl.2
      exact ⟨a :: l', h1.cons a, by simp [hl.1, h2]⟩
  | swap x y r =>
    intro l hl
    match l, hl with
    | a :: b :: l, hl =>
      simp only [List.map_cons, List.cons.injEq] at hl
      exact ⟨b :: a :: l, .swap a b l, by simp [hl.1, hl.2.1, hl.2.2]⟩
  | trans _ _ ih1 ih2 =>
    intro l hl
    obtain ⟨l1, h1, h2⟩ := ih1 l hl
    obtain ⟨l2, h3, h4⟩ := ih2 l1 h2
    exact ⟨l2, h3.trans h1, h4⟩
/-- blocks, each by its place and by whatever is said of its octets -/
def eG (g : Bk → AV) (l : List Bk) : List AV := l.flatMap fun b => [.v (.int .i64 b.index), g b]
theorem len_G {g : Bk → AV} (l : List Bk) : (eG g l).length = l.length * 2 := flat_len (e := fun b : Bk => [.v (.int .i64 b.index), g b]) (k := 2) (fun _ => rfl) l
theorem get_G {g : Bk → AV} {l : List Bk} {i : Nat} {b : Bk} (h : l[i]? = some b) : (eG g l)[i * 2]? = some (.v (.int .i64 b.index)) ∧ (eG g l)[i * 2 + 1]? = some (g b) :=
  ⟨flat_get (e := fun b : Bk => [.v (.int .i64 b.index), g b]) (k := 2) (fun _ => rfl) h 0 (by omega), flat_get (e := fun b : Bk => [.v (.int .i64 b.index), g b]) (k := 2) (fun _ => rfl) h 1 (by omega)⟩
/-- a block's cells, as they lie -/
def FEnt (g : Bk → AV) (c : Cx) (e : EntF) (x : Bk) : Prop := (e.1.1 : Int) = x.index ∧ VR c (g x) (.slice e.1.2.1 e.1.2.2.1 e.1.2.2.2)
set_option maxHeartbeats 2000000 in
theorem sortF_spec (g : Bk → AV) (hgs : ∀ b c u, VR c (g b) u → ∃ A n k, u = .slice A n k) (L acc : List Bk) (hp : L.Perm acc) (hinc : L.Pairwise (fun x y => x.index < y.index)) (hbd : ∀ b ∈ acc, 0 ≤ b.index ∧ b.index < 1000) (hlen : acc.length < 4611686018427387904) (i0 nb : Nat) (y : Bool) :
    ASound Tryz.prog 178 [.os i0 0 acc.length 2, .fn 179 []] nb (rowsM [(i0, y, 183, eG g acc)] (.ret (.tup []) [(i0, some (.row y 183 (eG g L)))])) := by
  refine ⟨by rfl, fun c us r R W hrun hr hfr hv => ?_⟩
  obtain ⟨hσ, R', hrun2⟩ := rowsM_run hrun
  simp [AM.run] at hrun2
  obtain ⟨rfl, _, rfl⟩ := hrun2
  have hs0 : c.σ i0 = some (.row y 183 (eG g acc)) := hσ 0 _ rfl
  rw [VRt] at hv
  obtain ⟨u1, us1, rfl, hu, hv⟩ := hv
  rw [VRt] at hv
  obtain ⟨u2, us2, rfl, hf, hv⟩ := hv
  rw [VRt] at hv
  subst hv
  obtain ⟨us3, rfl, h3⟩ := hf
  rw [VRt] at h3
  subst h3
  obtain ⟨A, k, rfl, hk, hcase⟩ := hu
  have hll : L.length = acc.length := hp.length_eq
  by_cases hnil : acc = []
  · subst hnil
    have hL : L = [] := List.eq_nil_of_length_eq_zero (by simpa using hll)
    subst hL
    have h := AnyF.slices_SortFunc_none sortLaidF A k (.func (.func 179) #[] #[]) c.w
    refine Calls.mono (show Calls Tryz.prog 178 _ _ _ from h) ?_
    rintro e w' ⟨rfl, rfl⟩
    refine ⟨_, c, rfl, rfl, ⟨[], rfl, rfl⟩, (Then.refl hr nb).eqW ?_⟩
    funext i
    simp only [app]
    split
    · rename_i e; rw [e, hs0]
    · rfl
  · have hpos : 0 < acc.length := List.length_pos_iff.2 hnil
    obtain ⟨b, hφ, rfl⟩ : ∃ b, c.φ i0 = some (some b) ∧ A = some ⟨b, 0, none⟩ := by
      rcases hcase with ⟨_, h⟩ | ⟨b, h1, h2, _⟩
      · omega
      · exact ⟨b, h1, h2⟩
    obtain ⟨cs, hb, hle, hcs⟩ : ∃ cs, c.w.heap[b]? = some (.cells cs 183 (0, 0)) ∧ (eG g acc).length ≤ cs.size ∧ ∀ (j : Nat) a, (eG g acc)[j]? = some a → ∃ u, cs[j]? = some u ∧ u.oneCell' = true ∧ VR c a u := by
      rcases hr.row i0 _ _ _ hs0 with ⟨h, _⟩ | ⟨b', cs', h1, h2, h3, h4, h5⟩
      · rw [hφ] at h; cases h
      · rw [hφ] at h1; cases h1; exact ⟨cs', h2.cells2 (by decide), h4, h5⟩
    have hblt := (Array.getElem?_eq_some_iff.1 hb).1
    have hl2 : (eG g acc).length = acc.length * 2 := len_G acc
    obtain ⟨es, hel, hes⟩ := listChoose (Q := fun i (e : EntF) => ∃ x, acc[i]? = some x ∧ FEnt g c e x ∧ cs[i * 2]? = some (.int .i64 (e.1.1 : Int)) ∧ cs[i * 2 + 1]? = some (.slice e.1.2.1 e.1.2.2.1 e.1.2.2.2)) acc.length (fun i hi => by
      obtain ⟨x, hx⟩ : ∃ x, acc[i]? = some x := ⟨_, List.getElem?_eq_getElem hi⟩
      obtain ⟨g0, g1⟩ := get_G (g := g) hx
      obtain ⟨u0, a0, _, v0⟩ := hcs _ _ g0
      obtain ⟨u1, a1, _, v1⟩ := hcs _ _ g1
      obtain rfl : u0 = .int .i64 x.index := v0
      have v1' := v1
      obtain ⟨A1, n1, k1, rfl⟩ := hgs _ _ _ v1'
      obtain ⟨hx0, hx1⟩ := hbd x (List.mem_of_getElem? hx)
      obtain ⟨q, hq⟩ := Int.eq_ofNat_of_zero_le hx0
      exact ⟨⟨(q, A1, n1, k1), by show q < 1000; omega⟩, x, hx, ⟨hq.symm, v1⟩, by rw [a0, hq], a1⟩)
    have hds : es.toArray.size = acc.length := by simp [hel]
    have entAt : ∀ (i : Nat) (e : EntF) (q : Nat), es[i]? = some e → q < 2 → cs[i * 2 + q]? = some ((encF e)[q]!) := by
      intro i e q he hq
      obtain ⟨x, _, _, h0, h1⟩ := hes i e he
      rcases (show q = 0 ∨ q = 1 by omega) with rfl | rfl
      · exact h0
      · exact h1
    have hH : HoldsK encF 2 c.w b 0 es.toArray := by
      intro j hj
      rw [size_flatK, hds] at hj
      have hi : j / 2 < es.length := by omega
      obtain ⟨e, he⟩ : ∃ e, es[j / 2]? = some e := ⟨_, List.getElem?_eq_getElem hi⟩
      have hc := entAt (j / 2) e (j % 2) he (Nat.mod_lt _ (by omega))
      have hge : es.toArray[j / 2]! = e := by
        rw [getElem!_pos es.toArray (j / 2) (by simpa using hi)]
        rw [List.getElem?_eq_getElem hi] at he
        simpa using he
      refine ⟨?_, frozenOf hb _⟩
      rw [get_flatK _ _ _ _ (by rw [hds]; exact hj), hge]
      rw [show j / 2 * 2 + j % 2 = j from by omega] at hc
      rw [Nat.zero_add]
      exact cellOf hb j hc
    have h := AnyQ.slices_SortFunc sortLaidF 2 (fun w => by kernel_rfl) (fun w => by kernel_rfl) encF (fun x => rfl) (fun x v hv => by simp [encF] at hv; rcases hv with rfl | rfl <;> rfl) cfF swoF 179 #[] b 0 k es.toArray c.w
      (enters_of Tryz.func179 (by kernel_rfl) rfl) (cmpF_lays b 0 _ c.w) hH hblt (by rw [hds]; exact hlen)
    rw [hds] at h
    refine Calls.mono (show Calls Tryz.prog 178 _ _ _ from h) ?_
    rintro e w' ⟨rfl, d', n, os, hp', hsrt, rfl⟩
    obtain ⟨hp1, _, hp3⟩ := hp'
    have hd's : d'.size = acc.length := by rw [hp1, hds]
    have hpe : d'.toList.Perm es := by
      rw [Array.extract_eq_self_of_le (by omega), Array.extract_eq_self_of_le (by omega)] at hp3
      exact hp3
    have hz1 : (es.zip acc).map (·.1) = es := List.map_fst_zip (by omega)
    have hz2 : (es.zip acc).map (·.2) = acc := List.map_snd_zip (by omega)
    obtain ⟨ps, hps, hpf⟩ := permMap Prod.fst hpe.symm (es.zip acc) hz1
    have hent : ∀ p ∈ ps, FEnt g c p.1 p.2 := by
      intro p hp
      have hp' := hps.mem_iff.1 hp
      obtain ⟨i, hi⟩ := List.getElem?_of_mem hp'
      rw [List.getElem?_zip_eq_some] at hi
      obtain ⟨x, hx, h1, _⟩ := hes i p.1 hi.1
      rw [hi.2] at hx
      cases hx
      exact h1
    have hLp : (ps.map (·.2)).Perm acc := by have := hps.map (·.2); rwa [hz2] at this
    have hpl : ps.length = acc.length := by have := hLp.length_eq; simpa using this
    have at_ : ∀ (i : Nat) p, ps[i]? = some p → d'[i]! = p.1 := by
      intro i p hi
      have h1 : d'.toList[i]? = some p.1 := by rw [← hpf, List.getElem?_map, hi]; rfl
      have hil := (List.getElem?_eq_some_iff.1 h1).1
      rw [getElem!_pos d' i (by simpa using hil)]
      rw [List.getElem?_eq_getElem hil] at h1
      simpa using h1
    have hrise : (ps.map (·.2)).Pairwise (fun x y => x.index ≤ y.index) := by
      rw [List.pairwise_iff_getElem]
      intro i j hi hj hij
      simp only [List.length_map] at hi hj
      have hs := hsrt i j (Nat.zero_le _) hij (by omega)
      rw [at_ i _ (List.getElem?_eq_getElem hi), at_ j _ (List.getElem?_eq_getElem hj), ltF] at hs
      obtain ⟨qi, _⟩ := hent _ (List.getElem_mem hi)
      obtain ⟨qj, _⟩ := hent _ (List.getElem_mem hj)
      simp only [List.getElem_map]
      have := of_decide_eq_false hs
      omega
    have hLe : L = ps.map (·.2) := rise_unique (fun x : Bk => x.index) (hp.trans hLp.symm) hinc hrise
    obtain ⟨hnb, hoth⟩ := sortF_cells hb n d' os
    generalize hw' : sortWorldK encF 2 c.w b 0 n d' os = w' at *
    have hsz : c.w.heap.size ≤ w'.heap.size := by rw [← hw']; exact size_sortWorldK_c _ _ _ _ _ _ _ _
    have hH' : HoldsK encF 2 w' b 0 d' := by rw [← hw']; exact holdsK_sortWorldK_c _ _ _ _ _ es.toArray d' n os hH hblt hp1
    have ho : w'.output = c.w.output ∧ w'.os = c.w.os ∧ w'.tape = c.w.tape := by rw [← hw']; exact ⟨rfl, rfl, rfl⟩
    have hcz : (putCells id 0 (flatK encF 2 d') cs).size = cs.size := by simp [putCells]
    have T := Then.turned hr nb (cells' := eG g L) hs0 hφ hb w' hsz ho.1 ho.2.1 ho.2.2 hnb hcz hoth (by rw [hcz, len_G, hll, ← hl2]; exact hle) (fun j a hj => by
      have hjl : j < acc.length * 2 := by
        have := (List.getElem?_eq_some_iff.1 hj).1
        rwa [len_G, hll] at this
      obtain ⟨p, hpp⟩ : ∃ p, ps[j / 2]? = some p := ⟨_, List.getElem?_eq_getElem (by omega)⟩
      have hx : L[j / 2]? = some p.2 := by rw [hLe, List.getElem?_map, hpp]; rfl
      obtain ⟨b0, b1⟩ := get_G (g := g) hx
      obtain ⟨q1, q2⟩ := hent p (List.mem_of_getElem? hpp)
      have hcell := (hH' j (by rw [size_flatK, hd's]; exact hjl)).1
      rw [get_flatK _ _ _ _ (by rw [hd's]; exact hjl), at_ _ _ hpp, Nat.zero_add] at hcell
      have hcell2 : (putCells id 0 (flatK encF 2 d') cs)[j]? = some ((encF p.1)[j % 2]!) := by
        simpa [World.cell?, hnb] using hcell
      have hj2 : j / 2 * 2 + j % 2 = j := by omega
      rcases (show j % 2 = 0 ∨ j % 2 = 1 by omega) with e0 | e0
      · rw [e0] at hcell2 hj2
        rw [show j = j / 2 * 2 from by omega, b0] at hj
        cases hj
        refine ⟨_, hcell2, rfl, ?_⟩
        show Value.int .i64 (p.1.1.1 : Int) = .int .i64 p.2.index
        rw [q1]
      · rw [e0] at hcell2 hj2
        rw [show j = j / 2 * 2 + 1 from by omega, b1] at hj
        cases hj
        exact ⟨_, hcell2, rfl, q2⟩)
    exact ⟨_, _, rfl, rfl, ⟨[], rfl, rfl⟩, T⟩
end Go.Proofs.YtonglhkiobibgaaGreatDoor
namespace Go.Proofs.YtonglhkiobibgaaGreatDoor
open Go.RowKit
set_option maxRecDepth 100000
theorem ASound.arg1 {P : Program} {f : FuncId} {a b : AV} {rest : List AV} {nb : Nat} {am : AM} (hi : Imp a b) (h : ASound P f (b :: rest) nb am) : ASound P f (a :: rest) nb am := by
  refine ⟨h.1, fun c us r R W hrun hr hfr hv => ?_⟩
  obtain ⟨u, us', rfl, h1, h2⟩ := hv
  exact h.2 c _ r R W hrun hr hfr ⟨u, us', rfl, hi c u h1, h2⟩
theorem imp_usB (l : List Int) : Imp (.us true 5 (eB l) l.length) (fB true l) := by
  refine Imp.us (fun h => h) ?_
  have : ∀ q : List AV, ImpL q q := fun q => by
    induction q with
    | nil => trivial
    | cons a q ih => exact ⟨Imp.refl a, ih⟩
  exact this _
theorem zeroU_spec (l : List Int) (nb : Nat) (hB : l.length ≤ 140737488355328) : ASound Tryz.prog 177 [.us true 5 (eB l) l.length] nb (.ret (.v (.bool (zrB l))) []) := ASound.arg1 (imp_usB l) (zero_spec true l nb hB)
/-- what has been collected -/
def accB (bl : List Bk) (vis : List Nat) : List Bk := (vis.filterMap fun j => bl[j]?).filter fun b => !zrB b.data
theorem accB_s {bl : List Bk} {vis : List Nat} {j : Nat} {b : Bk} (h : bl[j]? = some b) : accB bl (vis ++ [j]) = if zrB b.data = true then accB bl vis else accB bl vis ++ [b] := by
  unfold accB
  rw [List.filterMap_append, List.filter_append]
  cases hz : zrB b.data <;> simp [h, hz]
theorem perm_range : ∀ (n : Nat) (vis : List Nat), vis.Nodup → (∀ i, i ∈ vis ↔ i < n) → vis.Perm (List.range n)
  | 0, vis, _, h => by
    cases vis with
    | nil => exact .refl _
    | cons x l => have := (h x).1 (by simp); omega
  | n + 1, vis, hn, h => by
    have hm : n ∈ vis := (h n).2 (by omega)
    have h1 := perm_range n (vis.erase n) (hn.erase n) (fun i => by
      rw [List.Nodup.mem_erase_iff hn, h i]; omega)
    refine (List.perm_cons_erase hm).trans ?_
    rw [List.range_succ]
    exact (h1.cons n).trans (List.perm_append_singleton n _).symm
theorem range_get : ∀ l : List Bk, ((List.range l.length).filterMap fun j => l[j]?) = l := fun l => by
  induction l with
  | nil => rfl
  | cons b l ih =>
    rw [List.length_cons, List.range_succ_eq_map, List.filterMap_cons]
    simp only [List.getElem?_cons_zero, List.filterMap_map, Function.comp_def, List.getElem?_cons_succ]
    rw [ih]
theorem accB_perm {bl : List Bk} {vis : List Nat} (hn : vis.Nodup) (h : ∀ i, i ∈ vis ↔ i < bl.length) : (accB bl vis).Perm (bl.filter fun b => !zrB b.data) := by
  have h1 := (perm_range bl.length vis hn h).filterMap (fun j => bl[j]?)
  rw [range_get] at h1
  exact h1.filter _
theorem accB_mem {bl : List Bk} {vis : List Nat} : ∀ b ∈ accB bl vis, b ∈ bl := fun b hb => by
  obtain ⟨h1, _⟩ := List.mem_filter.1 hb
  obtain ⟨j, _, h2⟩ := List.mem_filterMap.1 h1
  exact List.mem_of_getElem? h2
noncomputable abbrev filB : Code := bodyOf Tryz.f120
noncomputable abbrev filR : Code := cSeq2 (cSeq2 filB)
noncomputable abbrev filG : Code := cSeq1 (cSeq1 filR)
noncomputable abbrev filL : Code := cLoop (cBlk (cSeq2 (cSeq1 filR)))
noncomputable abbrev filE : Code := cBlk (cSeq2 (cSeq2 filL))
theorem fil_shape : filB = .seq (cSeq1 filB) (.seq (cSeq1 (cSeq2 filB)) (.seq (.seq (.region 2 (cOps filG) false) (.block 0 (.loop (.seq (.region 3 (cOps (cSeq1 filL)) false) (.seq (.cond (.tmp 17) .skip (.exit 0)) (.block 1 (.seq (.region 4 (cOps (cSeq1 filE)) false) (cSeq2 filE)))))))) (cSeq2 filR))) := by kernel_rfl
def rgFil0 : AC := .reg false [⟨some 2, .new 115 [(.int .i64 (0)), (.slice none 0 0)], none, [], []⟩] [0, 2]
def rgFil1 : AC := .reg false [⟨some 6, .mv (.tmp 0), none, [0], []⟩, ⟨some 7, .nilc (.tmp 6), none, [6], []⟩, ⟨some 8, .foff 0 (.tmp 7), none, [7], []⟩, ⟨some 9, .load false 1 (.tmp 8), none, [8], []⟩, ⟨some 10, .build [(.int .i64 (0)), (.slice none 0 0)] [(0, 1, (.tmp 9))], none, [9], []⟩,
  ⟨some 3, .new 115 [(.int .i64 (0)), (.slice none 0 0)], none, [], []⟩, ⟨none, .store 2 (.tmp 3) (.tmp 10), none, [3, 10], []⟩] [0, 2, 3]
abbrev rsFil2 : List RO := [⟨some 11, .mv (.tmp 0), none, [0], []⟩, ⟨some 12, .nilc (.tmp 11), none, [11], []⟩, ⟨some 13, .foff 1 (.tmp 12), none, [12], []⟩, ⟨some 14, .load false 1 (.tmp 13), none, [13], []⟩]
def acFilE : AC := .seq (.reg false [⟨some 21, .mv (.tmp 5), none, [5], []⟩, ⟨some 22, .call 177 [(.tmp 21)], none, [21], []⟩, ⟨some 23, .un .not (.tmp 22), none, [22], []⟩] [2, 3, 4, 5, 15, 23])
  (.cond (.tmp 23) (.reg false [⟨some 24, .foff 1 (.tmp 3), none, [3], []⟩, ⟨some 25, .load false 1 (.tmp 24), none, [24], []⟩, ⟨some 26, .mv (.tmp 4), none, [4], []⟩, ⟨some 27, .mv (.tmp 5), none, [5], []⟩, ⟨some 28, .build [(.int .i64 (0)), (.slice none 0 0)] [(0, 1, (.tmp 26)), (1, 1, (.tmp 27))], none, [26, 27], []⟩,
    ⟨some 29, .bslice 183 2 1 [(.int .i64 (0)), (.slice none 0 0)] [(0, 2, (.tmp 28))], none, [28], []⟩, ⟨some 30, .append 183 2 32 (.tmp 25) (.tmp 29), none, [25, 29], []⟩, ⟨some 31, .foff 1 (.tmp 3), none, [3], []⟩, ⟨none, .store 1 (.tmp 31) (.tmp 30), none, [31, 30], []⟩] [2, 3, 15]) .skip)
def acFilZ : AC := .seq (.reg false [⟨some 32, .foff 1 (.tmp 3), none, [3], []⟩, ⟨some 33, .load false 1 (.tmp 32), none, [32], []⟩, ⟨some 34, .call 178 [(.tmp 33), (.func 179)], none, [33], []⟩] [2, 3])
  (.seq (.reg false [⟨some 35, .load true 2 (.tmp 3), none, [3], []⟩, ⟨none, .store 2 (.tmp 2) (.tmp 35), none, [2, 35], []⟩] [2]) .ret)
theorem fil_c0 : compCode Tryz.prog 36 (cSeq1 filB) = some rgFil0.forget := by kernel_rfl
theorem fil_c1 : compCode Tryz.prog 36 (cSeq1 (cSeq2 filB)) = some rgFil1.forget := by kernel_rfl
theorem fil_c2 : compROs Tryz.prog (cOps filG) 36 (cOps filG).toList.dropLast [] = some rsFil2 := by kernel_rfl
theorem fil_cE : compCode Tryz.prog 36 (cSeq2 filE) = some acFilE.forget := by kernel_rfl
theorem fil_cZ : compCode Tryz.prog 36 (cSeq2 filR) = some acFilZ.forget := by kernel_rfl
abbrev gU (b : Bk) : AV := .us true 5 (eB b.data) b.data.length
abbrev h_fi (y : Bool) (z : Int) (bl : List Bk) (vis : List Nat) : List (Nat × AObj) := [(0, .row y 275 [.v (.int .i64 z), .mp 1]), (2, .row true 115 [.v (.int .i64 0), .v (.slice none 0 0)]), (3, .row true 115 [.v (.int .i64 z), .os 4 0 (accB bl vis).length 2]), (4, .row true 183 (encU (accB bl vis)))]
abbrev E_fi (y : Bool) (z : Int) (bl : List Bk) (r : Nat) (vis : List Nat) : ASt := ⟨envOf [(2, .op 2 0), (3, .op 3 0), (15, itV r)], heapOf (h_fi y z bl vis), 5⟩
theorem accB_len (bl : List Bk) {vis : List Nat} (hv : vis.Nodup) (hlt : ∀ i ∈ vis, i < bl.length) : (accB bl vis).length ≤ bl.length := by
  unfold accB
  refine Nat.le_trans (List.length_filter_le _ _) (Nat.le_trans (List.length_filterMap_le _ _) ?_)
  exact nodup_len _ vis hv hlt
set_option maxHeartbeats 4000000 in
theorem fil_body {y : Bool} {z : Int} {bl : List Bk} (hlen : bl.length ≤ 1000) (hd : ∀ b ∈ bl, b.data.length ≤ 100000) (r : Nat) (vis : List Nat) {j : Nat} {b : Bk} (hvn : vis.Nodup) (hvl : ∀ i ∈ vis, i < bl.length) (hb : bl[j]? = some b) :
    AW none Tryz.prog 36 2 (cSeq2 filE) ⟨entE (E_fi y z bl r vis).env 16 17 18 19 20 4 5 (.v (.int .i64 b.index)) (.us true 5 (eB b.data) b.data.length), (E_fi y z bl r vis).σ, (E_fi y z bl r vis).nx⟩ (fun e s => e = .normal ∧ Weak 36 2 s (E_fi y z bl r (vis ++ [j]))) := by
  have hal := accB_len bl hvn hvl
  refine wpC_sound (ac := acFilE) ?_ _ fil_cE none (.inl rfl)
  have hz := fun nb => zeroU_spec b.data nb (by have := hd b (List.mem_of_getElem? hb); omega)
  simp only [acFilE, E_fi, entE, TT, ↓reduceIte, Nat.reduceEqDiff, Nat.reduceAdd, Nat.reduceMul, reduceCtorEq, Nat.reduceLeDiff]
  refine ⟨_, hz _, ?_⟩
  simp only [TT, ↓reduceIte, Nat.reduceEqDiff, Nat.reduceAdd, Nat.reduceMul, reduceCtorEq, Nat.reduceLeDiff]
  cases hzb : zrB b.data
  · simp only [TT, ↓reduceIte, Nat.reduceEqDiff, Nat.reduceAdd, Nat.reduceMul, reduceCtorEq, Nat.reduceLeDiff]
    rw [if_pos ⟨len_U _, by omega⟩]
    have e1 : accB bl (vis ++ [j]) = accB bl vis ++ [b] := by rw [accB_s hb, hzb]; rfl
    have e2 : encU (accB bl vis ++ [b]) = encU (accB bl vis) ++ eU b := by simp [encU]
    simp only [h_fi, e1, e2, List.length_append, List.length_cons, List.length_nil]
    refine Weak.calc [(0, 0), (1, 1), (2, 2), (3, 3), (900005, 4)] (by decide) ?_ ?_
    · simp [WT]
    · simp [WT, eU, al_U, ren_U, al_B, ren_B, AlL_append, renL_append]
  · simp only [TT, ↓reduceIte, Nat.reduceEqDiff, Nat.reduceAdd, Nat.reduceMul, reduceCtorEq, Nat.reduceLeDiff]
    have e1 : accB bl (vis ++ [j]) = accB bl vis := by rw [accB_s hb, hzb]; rfl
    simp only [h_fi, e1]
    refine Weak.calc [(0, 0), (1, 1), (2, 2), (3, 3), (4, 4)] (by decide) ?_ ?_
    · simp [WT]
    · simp [WT, al_U, ren_U]
theorem impBks : ∀ l : List Bk, ImpL (encU l) (eBks true l)
  | [] => trivial
  | b :: l => ⟨Imp.refl _, imp_usB _, impBks l⟩
abbrev rwsF (iV iM : Nat) (y y' : Bool) (z : Int) (bl : List Bk) : List RW := [(iV, y, 275, [.v (.int .i64 z), .mp iM]), (iM, y', MAPE, encU bl)]
set_option maxHeartbeats 4000000 in
theorem file_spec (z : Int) (bl L : List Bk) (hp : L.Perm (bl.filter fun b => !zrB b.data)) (hinc : L.Pairwise (fun x y => x.index < y.index)) (hbd : ∀ b ∈ bl, 0 ≤ b.index ∧ b.index < 1000) (hd : ∀ b ∈ bl, b.data.length ≤ 100000) (hlen : bl.length ≤ 1000) (iV iM nb : Nat) (y y' : Bool) (hne : iV ≠ iM) (hV : iV < nb) (hM : iM < nb) :
    ASound Tryz.prog 120 [.op iV 0] nb (rowsM (rwsF iV iM y y' z bl) (.ret (aFl true ⟨z, L⟩) (outW (rwsF iV iM y y' z bl) [some [.v (.int .i64 z), .mp iM], some (encU bl)] ++ []))) := by
  have hr0 : rn [(iV, 0), (iM, 1)] iV = 0 := by simp [rn]
  have hr1 : rn [(iV, 0), (iM, 1)] iM = 1 := by simp [rn, hne]
  refine soundZA 2 (fn := Tryz.f120) (rs := [.cell 2 true 2]) (rwsF iV iM y y' z bl) [some [.v (.int .i64 z), .mp iM], some (encU bl)] Tryz.func120 rfl (by rfl) rfl (by simp) ⟨by simp [Al], trivial⟩ (by simp [hne]) (fun x hx => ?_) rfl (by simp) (fun k cl hk => ?_) ?_
  · simp only [List.mem_cons, List.not_mem_nil, or_false] at hx
    rcases hx with rfl | rfl
    · exact ⟨.inl (by simp), ⟨trivial, by simp [Al], trivial⟩, hV⟩
    · exact ⟨.inr rfl, al_U _, hM⟩
  · rcases k with _ | _ | k
    · decide
    · decide
    · simp at hk
  show AW none Tryz.prog 36 2 filB _ _
  rw [fil_shape]
  simp only [renL, ren, rowsIn, inZ, hr0, hr1, ren_U, List.map_cons, List.map_nil, List.zipIdx_cons, List.zipIdx_nil, Nat.zero_add, List.length_cons, List.length_nil]
  refine AW.seq (AW.mono (Q := fun e s => e = .normal ∧ Weak 36 2 s ⟨envOf [(0, .op 0 0), (2, .op 2 0)], heapOf [(0, .row y 275 [.v (.int .i64 z), .mp 1]), (1, .row y' MAPE (encU bl)), (2, .row true 115 [.v (.int .i64 0), .v (.slice none 0 0)])], 3⟩) (wpC_sound (ac := rgFil0) ?_ _ fil_c0 none (.inl rfl)) ?_)
  · simp only [rgFil0, TT, ↓reduceIte, Nat.reduceEqDiff, Nat.reduceAdd, Nat.reduceMul, reduceCtorEq, Nat.reduceLeDiff]
    refine Weak.calc [(0, 0), (1, 1), (2, 2)] (by decide) ?_ ?_ <;> simp [WT, al_U, ren_U]
  rintro e s ⟨rfl, hw⟩
  refine AW.weak hw ?_
  refine AW.seq (AW.mono (Q := fun e s => e = .normal ∧ Weak 36 2 s ⟨envOf [(0, .op 0 0), (2, .op 2 0), (3, .op 3 0)], heapOf [(0, .row y 275 [.v (.int .i64 z), .mp 1]), (1, .row y' MAPE (encU bl)), (2, .row true 115 [.v (.int .i64 0), .v (.slice none 0 0)]), (3, .row true 115 [.v (.int .i64 z), .v (.slice none 0 0)])], 4⟩) (wpC_sound (ac := rgFil1) ?_ _ fil_c1 none (.inl rfl)) ?_)
  · simp only [rgFil1, TT, ↓reduceIte, Nat.reduceEqDiff, Nat.reduceAdd, Nat.reduceMul, reduceCtorEq, Nat.reduceLeDiff]
    refine Weak.calc [(0, 0), (1, 1), (2, 2), (500003, 3)] (by decide) ?_ ?_ <;> simp [WT, al_U, ren_U]
  rintro e s ⟨rfl, hw⟩
  refine AW.weak hw ?_
  refine AW.seq (AW.mono (Q := fun e s => e = .normal ∧ ∃ r vis, vis.Nodup ∧ (∀ i, i ∈ vis ↔ i < bl.length) ∧ s = ⟨putE (putE (E_fi y z bl r vis).env (some 16) .any) (some 17) .any, app (E_fi y z bl r vis).σ [(1, some (.row y' MAPE (encU bl)))], 5⟩) ?_ ?_)
  · refine AW.mrange (m := 2) (pre := (cOps filG).toList.dropLast) (rs := rsFil2) (o_r := (cOps filG)[4]!) (o_n := (cOps (cSeq1 filL))[0]!) (o_x := (cOps (cSeq1 filL))[1]!) (o_e := (cOps (cSeq1 filE))[0]!) (o_k := (cOps (cSeq1 filE))[1]!) (o_v := (cOps (cSeq1 filE))[2]!) (o_a := (cOps (cSeq1 filE))[3]!) (o_b := (cOps (cSeq1 filE))[4]!)
      (t := 273) (kt := 3) (vt := 37) (mt := 14) (it := 15) (tn := 16) (tok := 17) (te := 18) (tk := 19) (tv := 20) (dk := 4) (dv := 5) 2 (Nat.le_refl 2)
      (by kernel_rfl) fil_c2 (by kernel_rfl) (by kernel_rfl) (by kernel_rfl) (by kernel_rfl) (by kernel_rfl) (by kernel_rfl) (by kernel_rfl) (by kernel_rfl) (by kernel_rfl) (by kernel_rfl) (by kernel_rfl) (by kernel_rfl) (by kernel_rfl) (by kernel_rfl) (by kernel_rfl)
      (by kernel_rfl) (by kernel_rfl) (by kernel_rfl) (by kernel_rfl) (by kernel_rfl) (by kernel_rfl) (by kernel_rfl) (by kernel_rfl) (by kernel_rfl) (by kernel_rfl) (by kernel_rfl) (by kernel_rfl) (by decide) (by decide)
      1 (by decide) y' (encU bl) bl.length (len_U _) (fun a ha => AlN.of (AlL_iff.1 (al_U _) a ha)) (E_fi y z bl) (fun _ _ => show 2 ≤ 5 by decide) (fun _ _ => rfl) (fun _ _ => rfl) ?_ (show 2 ≤ 4 by decide) ?_ ?_
    · simp only [rsFil2, TT, ↓reduceIte, Nat.reduceEqDiff, Nat.reduceAdd, Nat.reduceMul, reduceCtorEq, Nat.reduceLeDiff]
      intro r
      refine Weak.trans (Weak.virtC 183 2 (l := [(2, .op 2 0), (3, .op 3 0), (15, itV r)]) (h := [(0, .row y 275 [.v (.int .i64 z), .mp 1]), (2, .row true 115 [.v (.int .i64 0), .v (.slice none 0 0)]), (3, .row true 115 [.v (.int .i64 z), .os 400004 0 0 2])]) ?_ ?_) (Weak.calc [(0, 0), (1, 1), (2, 2), (3, 3), (400004, 4)] (by decide) ?_ ?_)
      · simp [WT, putE, envOf, okV]
      · simp [WT, okHV]
      · simp [WT]
      · simp [WT, encU, accB]
    · intro r vis j K V hj hjv hvn hvl hK hV
      obtain ⟨b, hb⟩ : ∃ b, bl[j]? = some b := ⟨_, List.getElem?_eq_getElem hj⟩
      obtain ⟨g0, g1⟩ := get_U hb
      rw [g0] at hK
      rw [g1] at hV
      cases hK
      cases hV
      exact fil_body hlen hd r vis hvn hvl hb
    · intro r vis hvn hvis
      exact ⟨rfl, r, vis, hvn, hvis, rfl⟩
  rintro e s ⟨rfl, r, vis, hvn, hvis, rfl⟩
  show AW none Tryz.prog 36 2 (cSeq2 filR) _ _
  have hpm := accB_perm hvn hvis
  have hbm : ∀ b ∈ accB bl vis, b ∈ bl := accB_mem
  have hal := accB_len bl hvn (fun i hi => (hvis i).1 hi)
  have hsrt : ∀ nb, ASound Tryz.prog 178 [.os 4 0 (accB bl vis).length 2, .fn 179 []] nb (rowsM [(4, true, 183, encU (accB bl vis))] (.ret (.tup []) [(4, some (.row true 183 (encU L)))])) := fun nb => sortF_spec gU (fun b c u h => by obtain ⟨A, k, e, _⟩ := h; exact ⟨A, _, k, e⟩) L (accB bl vis) (hp.trans hpm.symm) hinc (fun b hb => hbd b (hbm b hb)) (by omega) 4 nb true
  have hll : L.length = (accB bl vis).length := (hp.trans hpm.symm).length_eq
  refine wpC_sound (ac := acFilZ) ?_ _ fil_cZ none (.inl rfl)
  simp only [acFilZ, E_fi, TT, ↓reduceIte, Nat.reduceEqDiff, Nat.reduceAdd, Nat.reduceMul, reduceCtorEq, Nat.reduceLeDiff]
  refine ⟨_, hsrt _, ?_⟩
  simp only [rowsM, TT, ↓reduceIte, Nat.reduceEqDiff, Nat.reduceAdd, Nat.reduceMul, reduceCtorEq, Nat.reduceLeDiff]
  have htk : (encU L).take (L.length * 2) = encU L := List.take_of_length_le (by rw [len_U]; exact Nat.le_refl _)
  refine EndsZ.weak (Weak.freezeC 4 (y := true) (e := 183) (cells := encU L) (by simp [ET]) (l := [(2, .op 2 0)]) (h := [(0, .row y 275 [.v (.int .i64 z), .mp 1]), (1, .row y' MAPE (encU bl)), (2, .row true 115 [.v (.int .i64 z), .fs true (encU L) L.length])]) ?_ ?_) ?_
  · simp [okF, fzV, fzOne, ET]
  · refine ⟨⟨by decide, ?_⟩, ⟨by decide, ?_⟩, ⟨by decide, ?_⟩, trivial⟩
    · simp [rowFz, ET]
    · simp [rowFz, ET]
    · simp only [rowFz, ET]
      refine ⟨⟨rfl, rfl⟩, .inr (.inr ⟨1, (accB bl vis).length, 2, rfl, ?_⟩)⟩
      rw [← hll, htk]
      rfl
  · refine EndsZ.keep2 (c0 := [.v (.int .i64 z), .mp 1]) (c1 := encU bl) (r0 := .agg [.v (.int .i64 z), .fs true (encU L) L.length]) (.inr rfl) (by simp [ET]) (by simp [ET]) (by simp [ET]) ⟨trivial, .inr rfl, trivial⟩ (al_U _) (by simp [renL, ren, ρZ]) (ren_U _) ⟨trivial, al_U _, trivial⟩ ?_
    simp only [ren, renL, ren_U]
    exact Imp.aggL ⟨Imp.refl _, Imp.fsL (fun h => h) (impBks L), trivial⟩
end Go.Proofs.YtonglhkiobibgaaGreatDoor
namespace Go.Proofs.YtonglhkiobibgaaGreatDoor
open Go.RowKit
set_option maxRecDepth 100000
theorem chkFl_blk {f : Fl} (h : chkFl f = 0) : blkE f.size = 0 := by
  unfold chkFl at h
  split at h
  · assumption
  · cases h
set_option maxHeartbeats 2000000 in
theorem trunc_spec (fr : Bool) (f : Fl) (nb : Nat) (hc : chkFl f = 0) : ASound Tryz.prog 171 [aFl fr f, .v (.int .i64 f.size)] nb (.ret (.tup [aFl true f, .v (.int .i64 0)]) []) := by
  obtain ⟨z0, z1, hb, hinc⟩ := chkFl_ok hc
  have h76 := nBl_le z0 z1
  have hfl : f.blocks.length ≤ 76 := by
    have h2 := rise_len (a := 0) (n := 76) hinc (fun b hbm => ⟨(hb b hbm).1, by have := (hb b hbm).2.1; omega⟩) (by omega)
    omega
  have hfil : f.blocks.filter (fun b => !zrB b.data) = f.blocks := List.filter_eq_self.2 fun b h => by rw [(hb b h).2.2.2.1]; rfl
  refine ok_171.sound (by simp) ⟨al_aFl f, trivial, trivial⟩ ?_
  simp only [ac_171, aFl, fBks, TT, ↓reduceIte, Nat.reduceEqDiff, Nat.reduceAdd, Nat.reduceMul, reduceCtorEq, Nat.reduceLeDiff]
  have hck := fun nb => fchk_spec fr f nb (by omega)
  have hlk := fun nb => look_spec fr f nb hc
  simp only [aFl, fBks, hc] at hck hlk
  refine ⟨_, hck _, ?_⟩
  simp only [TT, ↓reduceIte, Nat.reduceEqDiff, Nat.reduceAdd, Nat.reduceMul, reduceCtorEq, Nat.reduceLeDiff]
  refine ⟨_, blocks_spec f.size _, ?_⟩
  simp only [chkFl_blk hc, TT, ↓reduceIte, Nat.reduceEqDiff, Nat.reduceAdd, Nat.reduceMul, reduceCtorEq, Nat.reduceLeDiff]
  refine ⟨_, hlk _, ?_⟩
  simp only [TT, ↓reduceIte, Nat.reduceEqDiff, Nat.reduceAdd, Nat.reduceMul, reduceCtorEq, Nat.reduceLeDiff]
  refine ⟨_, cut_spec f hc 2000000 2000001 _ true true (by decide) (by decide) (by decide), ?_⟩
  simp only [rowsM, outW, rwsV, List.append_nil, Option.map_some, TT, ↓reduceIte, Nat.reduceEqDiff, Nat.reduceAdd, Nat.reduceMul, reduceCtorEq, Nat.reduceLeDiff]
  refine ⟨_, file_spec f.size f.blocks f.blocks (by rw [hfil]) hinc (fun b h => ⟨(hb b h).1, by have := (hb b h).2.1; omega⟩) (fun b h => by have := (hb b h).2.2.1; omega) (by omega) 2000000 2000001 _ true true (by decide) (by decide) (by decide), ?_⟩
  simp only [rowsM, outW, rwsF, List.append_nil, Option.map_some, TT, ↓reduceIte, Nat.reduceEqDiff, Nat.reduceAdd, Nat.reduceMul, reduceCtorEq, Nat.reduceLeDiff]
  simp only [aFl, fBks, TT, ↓reduceIte, Nat.reduceEqDiff, Nat.reduceAdd, Nat.reduceMul, reduceCtorEq, Nat.reduceLeDiff]
  exact Ends.data (.inr rfl) (by simp [ET]) ⟨⟨trivial, al_Bks _, trivial⟩, trivial, trivial⟩
end Go.Proofs.YtonglhkiobibgaaGreatDoor
namespace Go.Proofs.YtonglhkiobibgaaGreatDoor
open Go.RowKit
set_option maxRecDepth 100000
/-- six cells in the midst of cells -/
def mid (A B C : List AV) : List AV := A ++ (B ++ C)
theorem mid_len (A B C : List AV) : (mid A B C).length = A.length + B.length + C.length := by simp [mid, Nat.add_assoc]
theorem mid_get {A B C : List AV} {k : Nat} (hA : A.length = k) (q : Nat) (hq : q < B.length) : (mid A B C)[k + q]? = B[q]? := by
  unfold mid
  rw [List.getElem?_append_right (by omega), hA, Nat.add_sub_cancel_left, List.getElem?_append_left hq]
theorem mid_set {A B C : List AV} {k : Nat} (hA : A.length = k) (q : Nat) (hq : q < B.length) (v : AV) : (mid A B C).set (k + q) v = mid A (B.set q v) C := by
  unfold mid
  rw [List.set_append_right _ _ (by omega), hA, Nat.add_sub_cancel_left, List.set_append_left _ _ hq]
theorem mid_setN {A C : List AV} {k : Nat} (hA : A.length = k) : ∀ (l B : List AV) (q : Nat), q + l.length ≤ B.length → setN (mid A B C) (k + q) l = mid A (setN B q l) C
  | [], _, _, _ => rfl
  | a :: l, B, q, h => by
    simp only [List.length_cons] at h
    rw [setN, setN, mid_set hA q (by omega), Nat.add_assoc, mid_setN hA l (B.set q a) (q + 1) (by rw [List.length_set]; omega)]
theorem nds_mid (fr : Bool) {l : List Nd} {i : Nat} {n : Nd} (h : l[i]? = some n) : eNds fr l = mid (eNds fr (l.take i)) (eNd fr n) (eNds fr (l.drop (i + 1))) := by
  obtain ⟨hi, rfl⟩ := List.getElem?_eq_some_iff.1 h
  have e := List.take_append_drop i l
  rw [List.drop_eq_getElem_cons hi] at e
  have e2 : eNds fr l = eNds fr (l.take i ++ l[i] :: l.drop (i + 1)) := by rw [e]
  rw [e2]
  simp only [eNds, mid, List.flatMap_append, List.flatMap_cons]
/-- some of the nodes cloned -/
def clC (fr : Bool) (l : List Nd) (i : Nat) : List AV := eNds true (l.take i) ++ eNds fr (l.drop i)
theorem clC_mid {fr : Bool} {l : List Nd} {i : Nat} {n : Nd} (h : l[i]? = some n) : clC fr l i = mid (eNds true (l.take i)) (eNd fr n) (eNds fr (l.drop (i + 1))) := by
  obtain ⟨hi, rfl⟩ := List.getElem?_eq_some_iff.1 h
  unfold clC mid
  rw [List.drop_eq_getElem_cons hi]
  simp only [eNds, List.flatMap_cons]
theorem clC_next {fr : Bool} {l : List Nd} {i : Nat} {n : Nd} (h : l[i]? = some n) : clC fr l (i + 1) = mid (eNds true (l.take i)) (eNd true n) (eNds fr (l.drop (i + 1))) := by
  unfold clC mid
  rw [take_snoc h]
  simp [eNds]
theorem al_cl {p : Nat → Prop} {fr : Bool} (l : List Nd) (i : Nat) : AlL p (clC fr l i) := by unfold clC; rw [AlL_append]; exact ⟨al_Nds _, al_Nds _⟩
theorem ren_cl {ρ : Nat → Nat} {fr : Bool} (l : List Nd) (i : Nat) : renL ρ (clC fr l i) = clC fr l i := renL_id (p := fun _ => False) (fun _ h => h.elim) (al_cl l i)
abbrev L_cl (fr : Bool) (s : FSt) (i : Nat) : ASt := ⟨envOf [(3, .op 0 0), (17, .v (.int .i64 s.nodes.length)), (18, .v (.int .i64 i))], heapOf [(0, .row true 28 [.os 1 0 s.nodes.length 6, .v (.int .i64 s.next)]), (1, .row true 118 (clC fr s.nodes i))], 2⟩
set_option maxHeartbeats 2000000 in
theorem clone_spec (fr : Bool) (s : FSt) (nb : Nat) (h0 : s.nodes ≠ []) (hl : s.nodes.length ≤ 1000) (hn : ∀ n ∈ s.nodes, n.entries.length ≤ 1000 ∧ chkFl n.file = 0) :
    ASound Tryz.prog 111 [aFs fr s] nb (.ret (.op nb 0) [(nb, some (.row true 28 [.os (nb + 1) 0 s.nodes.length 6, .v (.int .i64 s.next)])), (nb + 1, some (.row true 118 (eNds true s.nodes)))]) := by
  refine ok_111.sound (by simp) ⟨al_aFs s, trivial⟩ ?_
  have hcl := fun nb => ndsClone_os fr s.nodes nb hl h0
  simp only [fNds] at hcl
  simp only [ac_111, aFs, fNds, TT, ↓reduceIte, Nat.reduceEqDiff, Nat.reduceAdd, Nat.reduceMul, reduceCtorEq, Nat.reduceLeDiff]
  refine ⟨_, hcl _, ?_⟩
  simp only [TT, ↓reduceIte, Nat.reduceEqDiff, Nat.reduceAdd, Nat.reduceMul, reduceCtorEq, Nat.reduceLeDiff]
  refine ⟨by rfl, AWc.family (L_cl fr s) (fun i => i ≤ s.nodes.length) (fun i => s.nodes.length - i) 0 (Nat.zero_le _) ?_ ?_⟩
  · refine Weak.calc [(800000, 0), (400000, 1)] (by decide) ?_ ?_
    · simp [WT, clC, eNds]
    · have hz : clC fr s.nodes 0 = eNds fr s.nodes := by simp [clC, eNds]
      simp [WT, hz, al_Nds, ren_Nds]
  · intro i hi
    by_cases hlt : i < s.nodes.length
    · obtain ⟨n, hx, e1, e0⟩ := lt_at hlt
      obtain ⟨k1, k2⟩ := hn n (List.mem_of_getElem? hx)
      have hA : (eNds true (s.nodes.take i)).length = i * 6 := by rw [len_Nds, List.length_take]; omega
      have hen := fun nb => entsClone_spec fr n.entries nb k1
      have htr := fun nb => trunc_spec fr n.file nb k2
      simp only [fEnts, aFl, fBks] at hen htr
      have h6 : ∀ (A : List AV) (C : List AV) (b0 b1 b2 b3 b4 b5 : AV), A.length = i * 6 →
          (mid A [b0, b1, b2, b3, b4, b5] C)[i * 6 + 3]? = some b3 ∧ (mid A [b0, b1, b2, b3, b4, b5] C)[i * 6 + 4]? = some b4 ∧ (mid A [b0, b1, b2, b3, b4, b5] C)[i * 6 + 4 + 1]? = some b5 ∧
          (∀ v, (mid A [b0, b1, b2, b3, b4, b5] C).set (i * 6 + 3) v = mid A [b0, b1, b2, v, b4, b5] C) ∧ (∀ v, (mid A [b0, b1, b2, b3, b4, b5] C).set (i * 6 + 4) v = mid A [b0, b1, b2, b3, v, b5] C) ∧ (∀ v, (mid A [b0, b1, b2, b3, b4, b5] C).set (i * 6 + 4 + 1) v = mid A [b0, b1, b2, b3, b4, v] C) ∧
          i * 6 + 3 + 1 ≤ (mid A [b0, b1, b2, b3, b4, b5] C).length ∧ i * 6 + 4 + 2 ≤ (mid A [b0, b1, b2, b3, b4, b5] C).length := fun A C b0 b1 b2 b3 b4 b5 hA =>
        ⟨mid_get hA 3 (by simp), mid_get hA 4 (by simp), mid_get hA 5 (by simp), fun v => mid_set hA 3 (by simp) v, fun v => mid_set hA 4 (by simp) v, fun v => mid_set hA 5 (by simp) v, by rw [mid_len]; simp; omega, by rw [mid_len]; simp; omega⟩
      generalize hAe : eNds true (s.nodes.take i) = A at *
      generalize hCe : eNds fr (s.nodes.drop (i + 1)) = C at *
      have hB : clC fr s.nodes i = mid A [.v (.int .i64 n.ino), .v (.bool n.dir), .v (.int .i64 n.links), .fs fr (eEnts n.entries) n.entries.length, .v (.int .i64 n.file.size), .fs fr (eBks fr n.file.blocks) n.file.blocks.length] C := by rw [clC_mid hx, hAe, hCe]; rfl
      have hB' : mid A [.v (.int .i64 n.ino), .v (.bool n.dir), .v (.int .i64 n.links), .fs true (eEnts n.entries) n.entries.length, .v (.int .i64 n.file.size), .fs true (eBks true n.file.blocks) n.file.blocks.length] C = clC fr s.nodes (i + 1) := by rw [clC_next hx, hAe, hCe]; rfl
      simp only [L_cl, hB, (h6 A C _ _ _ _ _ _ hA), e1, e0, Int.toNat_natCast, TT, ↓reduceIte, Nat.reduceEqDiff, Nat.reduceAdd, Nat.reduceMul, reduceCtorEq, Nat.reduceLeDiff]
      refine ⟨_, hen _, ?_⟩
      simp only [(h6 A C _ _ _ _ _ _ hA), e1, e0, Int.toNat_natCast, TT, ↓reduceIte, Nat.reduceEqDiff, Nat.reduceAdd, Nat.reduceMul, reduceCtorEq, Nat.reduceLeDiff]
      refine ⟨_, htr _, ?_⟩
      simp only [(h6 A C _ _ _ _ _ _ hA), e1, e0, Int.toNat_natCast, TT, ↓reduceIte, Nat.reduceEqDiff, Nat.reduceAdd, Nat.reduceMul, reduceCtorEq, Nat.reduceLeDiff]
      refine ⟨by rfl, famC_next (i + 1) (by omega) (by omega) ?_⟩
      simp only [hB']
      refine Weak.calc [(0, 0), (1, 1)] (by decide) ?_ ?_
      · simp [WT, wrap64 (x := (i : Int) + 1) (by omega)]
      · simp [WT, al_cl, ren_cl]
    · obtain rfl : i = s.nodes.length := by omega
      have e1 : ¬ ((s.nodes.length : Int) < (s.nodes.length : Int)) := by omega
      have hz : clC fr s.nodes s.nodes.length = eNds true s.nodes := by simp [clC, eNds]
      simp only [L_cl, e1, hz, TT, ↓reduceIte, Nat.reduceEqDiff, Nat.reduceAdd, Nat.reduceMul, reduceCtorEq, Nat.reduceLeDiff]
      exact Ends.rows2N (i := 0) (i' := 1) (cells := [.os 1 0 s.nodes.length 6, .v (.int .i64 s.next)]) (cells' := eNds true s.nodes) (r0 := .op 0 0) (.inr rfl) (by simp [ET]) (by decide) (by simp [ET]) ⟨by simp [Al], trivial, trivial⟩ (by simp [ET]) (al_Nds _) (by simp [Al]) (by simp [ren, rn]) (by simp [renL, ren, rn]) (ren_Nds _)
end Go.Proofs.YtonglhkiobibgaaGreatDoor
namespace Go.Proofs.YtonglhkiobibgaaGreatDoor
open Go.RowKit
variable {P : Program} {N m : Nat}
/-- what soundZA says, where every row has a block -/
theorem soundZB (m : Nat) {f : Nat} {fn : Func} {rs : List RV} {args : List AV} {nb : Nat} {r : AV} {W : List (Nat × Option AObj)} (rws : List RW) (out : List (Option (List AV))) (hf : P.funcs[f]? = some fn) (hb : fn.body = some (bodyOf fn)) (hn : enters P f = true) (hres : compRes P fn.results.toList = some rs) (hlen : args.length ≤ fn.ntmps) (hp : AlL (fun i => i ∈ rws.map (·.1)) args) (hnd : (rws.map (·.1)).Nodup)
    (hne : ∀ x ∈ rws, AlL (fun i => i ∈ rws.map (·.1)) x.2.2.2 ∧ x.1 < nb) (hol : out.length = rws.length) (hm : m ≤ rws.length) (hkm : ∀ (k : Nat) cl, out[k]? = some (some cl) → k < m)
    (hA : AW none P fn.ntmps m (bodyOf fn) ⟨envA (renL (rn ((rws.map (·.1)).zipIdx)) args), heapOf (rowsIn 0 (inZ rws)), rws.length⟩ (EndsZ fn.ntmps m rs rws out nb r W)) {c : Cx} {us : List Value} {r' : AV} {R : List Nat} {W' : List (Nat × Option AObj)} (hrun : (rowsM rws (.ret r (outW rws out ++ W))).run c.σ = some (r', R, W')) (hr : HR c) (hfr : ∀ id, nb ≤ id → c.φ id = none ∨ nb + 100000 ≤ id) (hv : VRt c args us) (hph : ∀ x ∈ rws, ∃ b, c.φ x.1 = some (some b)) : Calls P f us.toArray c.w fun e w' => ∃ v d, e = .returned v ∧ d.w = w' ∧ VR d r' v ∧ Then c nb W' d := by
  obtain ⟨hσ, R', hrun2⟩ := rowsM_run hrun
  simp [AM.run] at hrun2
  obtain ⟨rfl, _, rfl⟩ := hrun2
  clear hrun
  generalize hids : rws.map (·.1) = ids at *
  have idk : ∀ (k : Nat) (x : RW), rws[k]? = some x → ids[k]? = some x.1 := fun k x hx => by rw [← hids, List.getElem?_map, hx]; rfl
  have same : ∀ (k k' : Nat) (x x' : RW), rws[k]? = some x → rws[k']? = some x' → x.1 = x'.1 → k = k' := by
    intro k k' x x' h1 h2 h3
    have e1 := idk k x h1
    have e2 := idk k' x' h2
    rw [h3] at e1
    have l1 : k < ids.length := (List.getElem?_eq_some_iff.1 e1).1
    exact (List.getElem?_inj l1 hnd).1 (e1.trans e2.symm)
  have blk : ∀ k : Nat, ∃ b : Nat, ∀ x : RW, rws[k]? = some x → c.φ x.1 = some (some b) ∧ ∃ cs, Blk c.w b x.2.2.1 cs x.2.2.2.length ∧ ((x.2.1 = true → c.B ≤ b) ∧ ¬ c.X b) ∧ x.2.2.2.length ≤ cs.size ∧ ∀ (j : Nat) a, x.2.2.2[j]? = some a → ∃ u, cs[j]? = some u ∧ u.oneCell' = true ∧ VR c a u := by
    intro k
    cases hx : rws[k]? with
    | none => exact ⟨0, fun x h => by cases h⟩
    | some x =>
      rcases hr.row x.1 _ _ _ (hσ k x hx) with ⟨g1, g2⟩ | ⟨b, cs, g1, g2, g3, g4, g5⟩
      · obtain ⟨b9, h9⟩ := hph x (List.mem_of_getElem? hx); rw [g1] at h9; cases h9
      · exact ⟨b, fun x' hx' => by cases hx'; exact ⟨g1, cs, g2, g3, g4, g5⟩⟩
  obtain ⟨β, hβ⟩ := Classical.axiomOfChoice blk
  have inβ : ∀ k, k < rws.length → ∃ x : RW, rws[k]? = some x := fun k hk => ⟨_, List.getElem?_eq_getElem hk⟩
  have ltk : ∀ (k : Nat) (x : RW), rws[k]? = some x → k < rws.length := fun k x hx => (List.getElem?_eq_some_iff.1 hx).1
  obtain ⟨Yx, Yx_pos, Yx_neg⟩ := c.yx
  have Tβ : ∀ k, k < rws.length → c.T (β k) := fun k hk => by
    obtain ⟨x, hx⟩ := inβ k hk
    exact ⟨x.1, _, hσ k x hx, (hβ k x hx).1⟩
  have βinj : ∀ k k', k < rws.length → k' < rws.length → β k = β k' → k = k' := by
    intro k k' h1 h2 h3
    obtain ⟨x, hx⟩ := inβ k h1
    obtain ⟨x', hx'⟩ := inβ k' h2
    refine same k k' x x' hx hx' (hr.inj x.1 x'.1 (β k) (by rw [hσ k x hx]; simp) (by rw [hσ k' x' hx']; simp) (hβ k x hx).1 (by rw [h3]; exact (hβ k' x' hx').1))
  generalize hc1 : (⟨c.w, c.B, fun k => if k < rws.length then some (some (β k)) else none, heapOf (rowsIn 0 (inZ rws)), fun b => (c.T b ∧ ∀ k, k < rws.length → b ≠ β k) ∨ c.X b, Yx⟩ : Cx) = c1
  have w1 : c1.w = c.w := by rw [← hc1]
  have B1 : c1.B = c.B := by rw [← hc1]
  have σ1 : c1.σ = heapOf (rowsIn 0 (inZ rws)) := by rw [← hc1]
  have φ1 : ∀ k, c1.φ k = if k < rws.length then some (some (β k)) else none := by rw [← hc1]; intro k; rfl
  have X1 : ∀ b, c1.X b ↔ ((c.T b ∧ ∀ k, k < rws.length → b ≠ β k) ∨ c.X b) := by rw [← hc1]; intro b; rfl
  have Y1 : c1.Y = Yx := by rw [← hc1]
  have T1 : ∀ b, c1.T b ↔ ∃ k, k < rws.length ∧ b = β k := by
    intro b
    constructor
    · rintro ⟨i, o, _, e2⟩
      rw [φ1] at e2
      split at e2
      · rename_i hk; cases e2; exact ⟨i, hk, rfl⟩
      · cases e2
    · rintro ⟨k, hk, rfl⟩
      obtain ⟨x, hx⟩ := inβ k hk
      exact ⟨k, _, by rw [σ1]; have := rowsIn_some (k := 0) (inZ_get hids hx); rwa [Nat.zero_add] at this, by rw [φ1, if_pos hk]⟩
  have Tlt : ∀ b, c.T b → b < c.w.heap.size := by
    rintro b ⟨i, ⟨y', e', cl⟩, e1, e2⟩
    rcases hr.row i y' e' cl e1 with ⟨g1, _⟩ | ⟨b', cs, g1, g2, _⟩
    · rw [e2] at g1; cases g1
    · rw [e2] at g1; cases g1; exact g2.lt
  have al : Alike (fun i => i ∈ ids) (rn ids.zipIdx) c c1 := by
    refine ⟨w1, fun i x hi hx => ?_, fun fr b _ ho => ⟨by rw [B1]; exact ho.1, ?_, ?_⟩, fun k b n ho => ⟨by rw [X1]; exact .inr ho.1, ?_, ?_⟩⟩
    · obtain ⟨k, hk⟩ := List.mem_iff_getElem?.1 hi
      have hm : (i, k) ∈ ids.zipIdx := by rw [List.mem_iff_getElem?]; exact ⟨k, by rw [List.getElem?_zipIdx, hk]; simp⟩
      have e := rn_mem hm (by rw [List.zipIdx_map_fst]; exact hnd)
      have hkl : k < rws.length := by rw [← hids] at hk; have := (List.getElem?_eq_some_iff.1 hk).1; simpa using this
      obtain ⟨y, hy⟩ := inβ k hkl
      have := idk k y hy
      rw [hk] at this
      cases this
      rw [e, φ1, if_pos hkl, ← (hβ k y hy).1]
      exact hx
    · rw [T1]; rintro ⟨k, hk, rfl⟩; exact ho.2.1 (Tβ k hk)
    · rw [X1]; rintro (h9 | h9)
      · exact ho.2.1 h9.1
      · exact ho.2.2 h9
    · rw [T1]; rintro ⟨k, hk, rfl⟩; exact ho.2.1 (Tβ k hk)
    · rw [Y1, Yx_pos _ ho.1, w1]; exact ho.2.2
  have hv1 : VRt c1 (renL (rn ids.zipIdx) args) us := VRt.ren al hp hv
  have hul := (VRt_iff.1 hv1).1
  have hx1 : ∀ b, c1.X b → b < c1.w.heap.size := by
    intro b hb
    rw [w1]
    rcases (X1 b).1 hb with h9 | h9
    · exact Tlt b h9.1
    · exact hr.xlt b h9
  have hr1 : HR c1 := by
    refine ⟨fun i y' e' cl hs => ?_, fun i i' b e1 e2 e3 e4 => ?_, by rw [B1, w1]; exact hr.base, hx1, hr.gl.to fun b _ h2 h3 => ⟨by rw [w1], by rw [T1]; rintro ⟨k, hk, rfl⟩; exact h2 (Tβ k hk), fun _ => by
      rw [Y1]
      by_cases hx : c.X b
      · rw [Yx_pos _ hx]; exact h3 hx
      · exact Yx_neg _ hx⟩⟩
    · rw [σ1] at hs
      obtain ⟨j, xx, e1, e22, e3⟩ := rowsIn_get hs
      obtain ⟨x, e2, rfl⟩ := inZ_of hids e22
      clear e22
      cases e3
      rw [Nat.zero_add] at e1
      subst e1
      obtain ⟨g1, cs, g2, g3, g4, g5⟩ := hβ i x e2
      refine .inr ⟨β i, cs, by rw [φ1, if_pos (ltk i x e2)], by rw [w1]; exact g2.to (by rw [renL_map]; simp), ⟨by rw [B1]; exact g3.1, ?_⟩, by rw [renL_map]; simpa using g4, fun j a hj => ?_⟩
      · rw [X1]
        rintro (h9 | h9)
        · exact h9.2 i (ltk i x e2) rfl
        · exact g3.2 h9
      · rw [renL_map, List.getElem?_map, Option.map_eq_some_iff] at hj
        obtain ⟨a0, hj, rfl⟩ := hj
        obtain ⟨u, k1, k2, k3⟩ := g5 j a0 hj
        exact ⟨u, k1, k2, VR.ren al (AlL_iff.1 (hne x (List.mem_of_getElem? e2)).1 a0 (List.mem_of_getElem? hj)) k3⟩
    · rw [φ1] at e3 e4
      split at e3
      · rename_i h9
        split at e4
        · rename_i h8
          cases e3
          exact βinj i i' h9 h8 (by injection e4 with e4; injection e4 with e4; exact e4.symm)
        · cases e4
      · cases e3
  have hrel : RelR fn.ntmps rws.length No c1 ⟨envA (renL (rn ids.zipIdx) args), heapOf (rowsIn 0 (inZ rws)), rws.length⟩ { tmps := us.toArray ++ Array.replicate (fn.ntmps - us.toArray.size) undef, defers := [] } := by
    have hlen' : (renL (rn ids.zipIdx) args).length = args.length := by rw [renL_map]; simp
    refine ⟨by simp; omega, fun t => ?_, hr1, σ1, fun i hi hne => ?_⟩
    · simp only [envA]
      cases ha : (renL (rn ids.zipIdx) args)[t]? with
      | none => trivial
      | some x =>
        obtain ⟨u, e1, e2⟩ := (VRt_iff.1 hv1).2 t x ha
        have hlt : t < us.length := by rw [List.getElem?_eq_some_iff] at e1; exact e1.1
        have : (us.toArray ++ Array.replicate (fn.ntmps - us.toArray.size) undef).getD t undef = u := by
          rw [Array.getD_eq_getD_getElem?, Array.getElem?_append_left (by simpa using hlt)]
          simp [e1]
        rw [this]; exact e2
    · rw [φ1, if_neg (by omega)] at hne; exact absurd rfl hne
  have hw := hA 1 c1 _ hrel hm
  rw [← w1]
  refine calls_of_AW hf hb (wpIn_mono hw ?_)
  rintro e a' w' ⟨c20, s2, rfl, ga, m2, hr20, n2, he, s3, hwk, is, hge, hko, fin⟩
  refine ⟨he, c20, rfl, ga, fun W2 hsd => ?_⟩
  have g2 : Grow c1 (c20.at W2) := ga.g.side hsd (Nat.le_refl _)
  have hr2 := hr20.side hsd
  have w2 : (c20.at W2).w = W2 := rfl
  have m2 : ∀ id, id < m → (c20.at W2).φ id = c1.φ id := m2
  generalize c20.at W2 = c2 at *
  subst w2
  obtain ⟨c3, k1, k2, m3, hr3, _⟩ := hwk c2 a' hr2 n2
  have g3 : Grow c1 c3 := g2.trans k2
  have φ3 : ∀ k, k < m → c3.φ k = some (some (β k)) := fun k hk => by rw [m3 k hk, m2 k hk, φ1, if_pos (Nat.lt_of_lt_of_le hk hm)]
  obtain ⟨_, hkeep⟩ := keepOkZ_get hko
  rw [hids] at hkeep fin
  have σ3 : ∀ (k : Nat) (x : RW) cl, rws[k]? = some x → out[k]? = some (some cl) → k ∉ is ∧ ∃ c0, c3.σ k = some (.row x.2.1 x.2.2.1 c0) ∧ cellsZ (SZ out is) (ρZ ids m is nb) c0 cl := fun k x cl h1 h2 => by
    obtain ⟨c0, h3, h4⟩ := hkeep k x cl h1 h2
    rw [Nat.zero_add] at h3
    refine ⟨fun h5 => ?_, c0, by rw [hr3.σ]; exact h3, h4⟩
    have := hge k h5
    have := hkm k cl h2
    omega
  obtain ⟨l, l1, l2, l3⟩ := fin.res
  obtain ⟨ws, v1, v2, v3⟩ := fin.rows
  obtain ⟨u, hu1, hu2⟩ := results_run hr3 hres l1
  rw [k1] at hu1
  have hz : ∀ (k : Nat) i, is[k]? = some i → rn (is.zipIdx nb) i = nb + k := by
    intro k i hk
    have hm : (i, nb + k) ∈ is.zipIdx nb := by
      rw [List.mem_iff_getElem?]
      exact ⟨k, by rw [List.getElem?_zipIdx, hk]; rfl⟩
    exact rn_mem hm (by rw [List.zipIdx_map_fst]; exact fin.nodup)
  generalize hd : (⟨c3.w, c.B, fun id => if nb ≤ id then (match is[id - nb]? with | some i => c3.φ i | none => c.φ id) else c.φ id, app c.σ (outW rws out ++ W), c.X, c.Y⟩ : Cx) = d
  have dw : d.w = c3.w := by rw [← hd]
  have dB : d.B = c.B := by rw [← hd]
  have dX : d.X = c.X := by rw [← hd]
  have dY : d.Y = c.Y := by rw [← hd]
  have dσ : ∀ i, d.σ i = if nb ≤ i then (match ws[i - nb]? with | some x => some (.row x.1 x.2.1 x.2.2) | none => app c.σ (outW rws out) i) else app c.σ (outW rws out) i := by
    intro i
    rw [← hd]
    show app c.σ (outW rws out ++ W) i = _
    rw [← app_append, v2, app_rows]
    try rfl
  have dφ : ∀ i, d.φ i = if nb ≤ i then (match is[i - nb]? with | some i => c3.φ i | none => c.φ i) else c.φ i := by rw [← hd]; intro id; rfl
  have stay : ∀ b, b < c.w.heap.size → (∀ k, k < rws.length → b ≠ β k) → (c.X b → c.Y b = .no) → d.w.heap[b]? = c.w.heap[b]? := fun b hb hb0 hy => by
    rw [dw]
    have := g3.stay b (by rw [w1]; exact hb) (by rw [T1]; rintro ⟨k, hk, e⟩; exact hb0 k hk e) (fun _ => by
      rw [Y1]
      by_cases hx : c.X b
      · rw [Yx_pos _ hx]; exact hy hx
      · exact Yx_neg _ hx)
    rw [this, w1]
  have size : c.w.heap.size ≤ d.w.heap.size := by rw [dw, ← w1]; exact g3.size
  have dnew : ∀ (k : Nat) i, is[k]? = some i → d.φ (nb + k) = c3.φ i := fun k i hk => by
    rw [dφ, if_pos (by omega), Nat.add_sub_cancel_left, hk]
  have dold : ∀ i, (¬ nb ≤ i ∨ is[i - nb]? = none) → d.φ i = c.φ i ∧ d.σ i = app c.σ (outW rws out) i := by
    intro i hi
    rw [dφ, dσ]
    by_cases h1 : nb ≤ i
    · have h2 := hi.resolve_left (by simpa using h1)
      have h3 : ws[i - nb]? = none := by rw [List.getElem?_eq_none_iff] at h2 ⊢; omega
      rw [if_pos h1, if_pos h1, h2, h3]; exact ⟨rfl, rfl⟩
    · rw [if_neg h1, if_neg h1]; exact ⟨rfl, rfl⟩
  have split2 : ∀ i, (nb ≤ i ∧ i - nb < is.length) ∨ (¬ nb ≤ i ∨ is[i - nb]? = none) := by
    intro i
    by_cases h2 : nb ≤ i
    · by_cases h3 : i - nb < is.length
      · exact .inl ⟨h2, h3⟩
      · right; right; rw [List.getElem?_eq_none_iff]; omega
    · exact .inr (.inl h2)
  have names : Names c d := by
    intro i x hx
    rcases split2 i with h1 | h1
    · rcases hfr i h1.1 with h2 | h2
      · rw [h2] at hx; cases hx
      · have := fin.few; omega
    · rw [(dold i h1).1]; exact hx
  have did : ∀ (k : Nat) (x : RW), rws[k]? = some x → d.φ x.1 = some (some (β k)) := fun k x hx => names _ _ (hβ k x hx).1
  have dlive : ∀ i o, d.σ i = some o → (i ∉ ids ∧ c.σ i = some o ∧ d.φ i = c.φ i) ∨ (∃ (k : Nat) (x : RW) (cl : List AV), rws[k]? = some x ∧ x.1 = i ∧ out[k]? = some (some cl) ∧ o = .row x.2.1 x.2.2.1 cl) ∨ ∃ k i' y e cells, is[k]? = some i' ∧ i = nb + k ∧ c3.σ i' = some (.row y e cells) ∧ AlL (SZ out is) cells ∧ ∃ cells', o = .row y e cells' ∧ cells'.length = cells.length ∧ ∀ (j : Nat) a', cells'[j]? = some a' → ∃ a, cells[j]? = some a ∧ Imp (ren (ρZ ids m is nb) a) a' := by
    intro i o ho
    rcases split2 i with h1 | h1
    · right; right
      have hk : is[i - nb]? = some is[i - nb] := List.getElem?_eq_getElem h1.2
      obtain ⟨y2, e2, cl2, e1, e3, cells2, e4, e5⟩ := v3 _ _ hk
      rw [dσ, if_pos h1.1, e4] at ho
      simp at ho
      exact ⟨i - nb, _, y2, e2, cl2, hk, by omega, by rw [hr3.σ]; exact e1, e3, cells2, ho.symm, e5⟩
    · have h2 := dold i h1
      rw [h2.2] at ho
      rcases outW_app (σ := c.σ) (i := i) hol (by rw [hids]; exact hnd) with ⟨k, x, q, e1, e2, e3, e4⟩ | ⟨e1, e2⟩
      · rw [e4] at ho
        cases q with
        | none => cases ho
        | some cl => cases ho; exact .inr (.inl ⟨k, x, cl, e1, e2, e3, rfl⟩)
      · rw [e2] at ho
        exact .inl ⟨by rw [← hids]; exact e1, ho, h2.1⟩
  have newblk : ∀ (k : Nat) i y e cells b, is[k]? = some i → c3.σ i = some (.row y e cells) → c3.φ i = some (some b) → c.w.heap.size ≤ b ∨ ∃ k, k < rws.length ∧ b = β k ∧ ∀ cl, out[k]? ≠ some (some cl) := by
    intro k0 i y2 e2 cl2 b hi e1 e3
    rcases g3.held b ⟨i, _, e1, e3⟩ with h9 | h9
    · obtain ⟨k, hk, rfl⟩ := (T1 b).1 h9
      refine .inr ⟨k, hk, rfl, fun cl hcl => ?_⟩
      obtain ⟨x, hx⟩ := inβ k hk
      obtain ⟨q2, c0, q1, _⟩ := σ3 k x cl hx hcl
      have := hr3.hr.inj i k (β k) (by rw [e1]; simp) (by rw [q1]; simp) e3 (φ3 k (hkm k cl hcl))
      exact q2 (by rw [← this]; exact List.mem_of_getElem? hi)
    · rw [← w1]; exact .inl h9
  have notin : ∀ (i : Nat) o b, i ∉ ids → c.σ i = some o → c.φ i = some (some b) → ∀ k, k < rws.length → b ≠ β k := by
    rintro i o b h1 h2 h3 k hk rfl
    obtain ⟨x, hx⟩ := inβ k hk
    have := hr.inj i x.1 (β k) (by rw [h2]; simp) (by rw [hσ k x hx]; simp) h3 (hβ k x hx).1
    exact h1 (by rw [this]; exact List.mem_of_getElem? (idk k x hx))
  have dT : ∀ b, d.T b → (c.T b ∨ c.w.heap.size ≤ b) ∧ ((c.T b ∧ ∀ k, k < rws.length → b ≠ β k) ∨ c3.T b) := by
    rintro b ⟨i, o, e1, e2⟩
    rcases dlive i o e1 with ⟨f0, f1, f2⟩ | ⟨k, x, cl, f1, rfl, f3, _⟩ | ⟨k, i', y2, e3, cl2, f1, rfl, f3, _, _⟩
    · rw [f2] at e2
      exact ⟨.inl ⟨i, o, f1, e2⟩, .inl ⟨⟨i, o, f1, e2⟩, notin i o b f0 f1 e2⟩⟩
    · rw [did k x f1] at e2; cases e2
      obtain ⟨_, c0, q1, _⟩ := σ3 k x cl f1 f3
      exact ⟨.inl (Tβ k (ltk k x f1)), .inr ⟨k, _, q1, φ3 k (hkm k cl f3)⟩⟩
    · rw [dnew k i' f1] at e2
      refine ⟨?_, .inr ⟨i', _, f3, e2⟩⟩
      rcases newblk k i' y2 e3 cl2 b f1 f3 e2 with h9 | ⟨k', hk', rfl, _⟩
      · exact .inr h9
      · exact .inl (Tβ k' hk')
  have grow : Grow c d := by
    refine ⟨dX, dB, ?_, ?_, ?_, size, fun b hb ht hy => stay b hb (fun k hk e1 => ht (by rw [e1]; exact Tβ k hk)) hy, fun b hb => (dT b hb).1, fun b cs e f hb => (by have := g3.shape b cs e f (by rw [w1]; exact hb); rw [dw]; exact this), dY, fun b k sz h1 h2 h3 h4 h5 => (by
      have := g3.wild b k sz (by rw [T1]; rintro ⟨k, hk, rfl⟩; exact h1 (Tβ k hk)) (by rw [X1]; exact .inr h2) (by rw [Y1, Yx_pos _ h2]; exact h3) h4 (by rw [w1]; exact h5)
      rw [dw]; exact this)⟩
    · rw [dw, g3.out, w1]
    · rw [dw, g3.osE, w1]
    · rw [dw, g3.tape, w1]
  have al3 : Alike (SZ out is) (ρZ ids m is nb) c3 d := by
    refine ⟨dw, fun i x hi hx => ?_, fun fr b hb ho => ⟨fun hf' => ?_, fun ht => ?_, ?_⟩, ?_⟩
    · rcases hi with ⟨cl, hcl⟩ | hi
      · have him := hkm i cl hcl
        obtain ⟨x0, hx0⟩ := inβ i (Nat.lt_of_lt_of_le him hm)
        rw [φ3 i him] at hx
        unfold ρZ
        rw [if_pos him, idk i x0 hx0]
        rw [← hx]; exact did i x0 hx0
      · have him := hge i hi
        obtain ⟨k, hk⟩ := List.mem_iff_getElem?.1 hi
        unfold ρZ
        rw [if_neg (by omega), hz k i hk, dnew k i hk]; exact hx
    · rw [dB, ← B1, ← g3.B]; exact ho.1 hf'
    · rcases (dT b ht).2 with h9 | h9
      · exact ho.2.2 (by rw [g3.X, X1]; exact .inl h9)
      · exact ho.2.1 h9
    · rw [dX]; intro h9; exact ho.2.2 (by rw [g3.X, X1]; exact .inr h9)
    · intro k b n ho
      obtain ⟨o1, o2, o3, o4, o5⟩ := ho
      rw [g3.Y, Y1] at o3
      have hx : c.X b := by
        by_cases hx : c.X b
        · exact hx
        · rw [Yx_neg _ hx] at o3; rcases o4 with rfl | rfl <;> cases o3
      rw [Yx_pos _ hx] at o3
      refine ⟨by rw [dX]; exact hx, fun ht => ?_, by rw [dY]; exact o3, o4, by rw [dw]; exact o5⟩
      rcases (dT b ht).2 with h9 | h9
      · exact hr.TX h9.1 hx
      · exact o2 h9
  have hrd : HR d := by
    refine ⟨fun i y2 e2 cl hs => ?_, fun i i' b e1 e2 e3 e4 => ?_, by rw [dB]; exact Nat.le_trans hr.base size, fun b hb => by rw [dX] at hb; exact Nat.lt_of_lt_of_le (hr.xlt b hb) size, hr.gl.grow grow⟩
    · rcases dlive i _ hs with ⟨f0, f1, f2⟩ | ⟨k, x, cl', f1, rfl, f3, f4⟩ | ⟨k, i', y', e', cells0, f1, rfl, f3, f4, cells2, f5, f6, f7⟩
      · rcases hr.row i y2 e2 cl f1 with ⟨g1, g2⟩ | ⟨b, cs, g1, g2, g3', g4, g5⟩
        · exact .inl ⟨by rw [f2]; exact g1, g2⟩
        · refine .inr ⟨b, cs, by rw [f2]; exact g1, g2.of (stay b g2.lt (notin i _ b f0 f1 g1) (fun h9 => absurd h9 g3'.2)), ⟨by rw [dB]; exact g3'.1, by rw [dX]; exact g3'.2⟩, g4, fun j x hj => ?_⟩
          obtain ⟨q, k1, k2, k3⟩ := g5 j x hj
          exact ⟨q, k1, k2, k3.mono grow names⟩
      · cases f4
        obtain ⟨_, c0, q1, q3, q4, q5⟩ := σ3 k x _ f1 f3
        rcases hr3.hr.row k _ _ _ q1 with ⟨g1, _⟩ | ⟨b, cs, g1, g2, g3', g4, g5⟩
        · rw [φ3 k (hkm k _ f3)] at g1; cases g1
        · rw [φ3 k (hkm k _ f3)] at g1; cases g1
          obtain ⟨_, _, _, z3, _⟩ := hβ k x f1
          refine .inr ⟨β k, cs, did k x f1, by rw [dw]; exact g2.to q4, ⟨fun hy => by rw [dB, ← B1, ← g3.B]; exact g3'.1 hy, by rw [dX]; exact z3.2⟩, by omega, fun j x hj => ?_⟩
          obtain ⟨x', hx', hi'⟩ := q5 j x hj
          obtain ⟨q, m1, m2, m3⟩ := g5 j x' hx'
          exact ⟨q, m1, m2, hi' _ _ (VR.ren al3 (AlL_iff.1 q3 x' (List.mem_of_getElem? hx')) m3)⟩
      · cases f5
        rcases hr3.hr.row i' y2 e2 cells0 f3 with ⟨g1, g2⟩ | ⟨b, cs, g1, g2, g3', g4, g5⟩
        · exact .inl ⟨by rw [dnew k i' f1]; exact g1, by rw [g2.1] at f6; exact List.eq_nil_of_length_eq_zero f6, g2.2⟩
        · refine .inr ⟨b, cs, by rw [dnew k i' f1]; exact g1, by rw [dw]; exact g2.to f6, ⟨fun hy => by rw [dB, ← B1, ← g3.B]; exact g3'.1 hy, fun hx => ?_⟩, by omega, fun j x hj => ?_⟩
          · rw [dX] at hx; exact g3'.2 (by rw [g3.X, X1]; exact .inr hx)
          · obtain ⟨x', hx', hi'⟩ := f7 j x hj
            obtain ⟨q, m1, m2, m3⟩ := g5 j x' hx'
            exact ⟨q, m1, m2, hi' _ _ (VR.ren al3 (AlL_iff.1 f4 x' (List.mem_of_getElem? hx')) m3)⟩
    · obtain ⟨o1, ho1⟩ := Option.ne_none_iff_exists'.1 e1
      obtain ⟨o2, ho2⟩ := Option.ne_none_iff_exists'.1 e2
      have old : ∀ j o, d.σ j = some o → (∃ o', c.σ j = some o' ∧ d.φ j = c.φ j ∧ (j ∉ ids ∨ ∃ (k : Nat) (x : RW) (cl : List AV), rws[k]? = some x ∧ x.1 = j ∧ out[k]? = some (some cl))) ∨ ∃ k i' y e cells, is[k]? = some i' ∧ j = nb + k ∧ c3.σ i' = some (.row y e cells) := by
        intro j o hj
        rcases dlive j o hj with ⟨f0, f1, f2⟩ | ⟨k, x, cl, f1, rfl, f3, _⟩ | ⟨k, i', y', e', cells0, f1, f2, f3, _⟩
        · exact .inl ⟨o, f1, f2, .inl f0⟩
        · exact .inl ⟨_, hσ k x f1, by rw [did k x f1, (hβ k x f1).1], .inr ⟨k, x, cl, f1, rfl, f3⟩⟩
        · exact .inr ⟨k, i', y', e', cells0, f1, f2, f3⟩
      have oldnew : ∀ j o b, c.σ j = some o → c.φ j = some (some b) → (j ∉ ids ∨ ∃ (k : Nat) (x : RW) (cl : List AV), rws[k]? = some x ∧ x.1 = j ∧ out[k]? = some (some cl)) → ∀ (k : Nat) i y e cells, is[k]? = some i → c3.σ i = some (.row y e cells) → c3.φ i = some (some b) → False := by
        intro j o b h1 h2 h3 k i y e cells h4 h5 h6
        rcases newblk k i y e cells b h4 h5 h6 with h9 | ⟨k', hk', rfl, h8⟩
        · have := Tlt b ⟨j, _, h1, h2⟩
          omega
        · rcases h3 with h3 | ⟨k2, x, cl, q1, rfl, q3⟩
          · exact notin j o (β k') h3 h1 h2 k' hk' rfl
          · have e9 := (hβ k2 x q1).1
            rw [h2] at e9
            injection e9 with e9
            injection e9 with e9
            have := βinj k' k2 hk' (ltk k2 x q1) e9
            rw [this] at h8
            exact h8 cl q3
      rcases old i o1 ho1 with ⟨_, f1, f2, f9⟩ | ⟨k, j, y2, e5, cl, f1, rfl, f3⟩ <;> rcases old i' o2 ho2 with ⟨_, j1, j2, j9⟩ | ⟨k', j', y', e', cl', j1, rfl, j3⟩
      · exact hr.inj i i' b (by rw [f1]; simp) (by rw [j1]; simp) (by rw [← f2]; exact e3) (by rw [← j2]; exact e4)
      · rw [dnew k' j' j1] at e4
        exact (oldnew i _ b f1 (by rw [← f2]; exact e3) f9 k' j' _ _ _ j1 j3 e4).elim
      · rw [dnew k j f1] at e3
        exact (oldnew i' _ b j1 (by rw [← j2]; exact e4) j9 k j _ _ _ f1 f3 e3).elim
      · rw [dnew k j f1] at e3
        rw [dnew k' j' j1] at e4
        have := hr3.hr.inj j j' b (by rw [f3]; simp) (by rw [j3]; simp) e3 e4
        subst this
        have k1 := hz k j f1
        have k2 := hz k' j j1
        omega
  have T : Then c nb (outW rws out ++ W) d := ⟨grow, names, hrd, by rw [← hd], fun i hi => by
    rcases split2 i with h1 | h1
    · right; have := fin.few; omega
    · left
      rw [(dold i h1).1] at hi
      exact hi⟩
  have fin' : ∃ v, (results fn a'.tmps).run P c2.w = .ok v c2.w ∧ ∃ v' d, Ending.returned v = .returned v' ∧ d.w = c2.w ∧ VR d r v' ∧ Then c nb (outW rws out ++ W) d := by
    refine ⟨u, hu1, u, d, rfl, by rw [dw]; exact k1, ?_, T⟩
    exact l3 _ _ (VR.ren al3 l2 hu2)
  exact fin'
theorem FnOk.soundZB (m : Nat) {f : Nat} {ac : AC} {rs : List RV} {args : List AV} {nb : Nat} {r : AV} {W : List (Nat × Option AObj)} (rws : List RW) (out : List (Option (List AV))) (h : FnOk P f N ac rs) (hlen : args.length ≤ N) (hp : AlL (fun i => i ∈ rws.map (·.1)) args) (hnd : (rws.map (·.1)).Nodup)
    (hne : ∀ x ∈ rws, AlL (fun i => i ∈ rws.map (·.1)) x.2.2.2 ∧ x.1 < nb) (hol : out.length = rws.length) (hm : m ≤ rws.length) (hkm : ∀ (k : Nat) cl, out[k]? = some (some cl) → k < m)
    (hw : wpC P N m ac ⟨envA (renL (rn ((rws.map (·.1)).zipIdx)) args), heapOf (rowsIn 0 (inZ rws)), rws.length⟩ (EndsZ N m rs rws out nb r W)) {c : Cx} {us : List Value} {r' : AV} {R : List Nat} {W' : List (Nat × Option AObj)} (hrun : (rowsM rws (.ret r (outW rws out ++ W))).run c.σ = some (r', R, W')) (hr : HR c) (hfr : ∀ id, nb ≤ id → c.φ id = none ∨ nb + 100000 ≤ id) (hv : VRt c args us) (hph : ∀ x ∈ rws, ∃ b, c.φ x.1 = some (some b)) : Calls P f us.toArray c.w fun e w' => ∃ v d, e = .returned v ∧ d.w = w' ∧ VR d r' v ∧ Then c nb W' d := by
  obtain ⟨fn, hf, hb, hn, rfl, hcc, hres⟩ := h.h
  exact _root_.Go.Proofs.YtonglhkiobibgaaGreatDoor.soundZB m rws out hf hb hn hres hlen hp hnd hne hol hm hkm (wpC_sound hw (bodyOf fn) hcc none (.inl rfl)) hrun hr hfr hv hph
theorem FnOk.soundZc (m : Nat) {f : Nat} {ac : AC} {rs : List RV} {args : List AV} {nb : Nat} {r : AV} {W : List (Nat × Option AObj)} (rws : List RW) (out : List (Option (List AV))) (h : FnOk P f N ac rs) (hlen : args.length ≤ N) (hp : AlL (fun i => i ∈ rws.map (·.1)) args) (hnd : (rws.map (·.1)).Nodup)
    (hne : ∀ x ∈ rws, (x.2.2.2 ≠ [] ∨ x.2.2.1 = MAPE) ∧ AlL (fun i => i ∈ rws.map (·.1)) x.2.2.2 ∧ x.1 < nb) (hol : out.length = rws.length) (hm : m ≤ rws.length) (hkm : ∀ (k : Nat) cl, out[k]? = some (some cl) → k < m)
    (hw : AWc P N m ac ⟨envA (renL (rn ((rws.map (·.1)).zipIdx)) args), heapOf (rowsIn 0 (inZ rws)), rws.length⟩ (EndsZ N m rs rws out nb r W)) : ASound P f args nb (rowsM rws (.ret r (outW rws out ++ W))) := by
  obtain ⟨fn, hf, hb, hn, rfl, hcc, hres⟩ := h.h
  exact soundZA m rws out hf hb hn hres hlen hp hnd hne hol hm hkm (hw (bodyOf fn) hcc none (.inl rfl))
/-- nil, as an empty row of its own -/
def VtA (j sz : Nat) (a b : AV) : Prop := b = a ∨ (∃ A, a = .v (.slice A 0 0)) ∧ b = .os j 0 0 sz
theorem Weak.virtA {s : ASt} (e sz : Nat) (hneM : e ≠ MAPE) (l : List (Nat × AV)) (h : List (Nat × AObj)) (hl : ∀ t v, (t, v) ∈ l → VtA s.nx sz (s.env t) v)
    (hh : ∀ j o, (j, o) ∈ h → j < s.nx ∧ ∃ y' e' cs cs', s.σ j = some (.row y' e' cs) ∧ o = .row y' e' cs' ∧ cs'.length = cs.length ∧ ∀ (k : Nat) x', cs'[k]? = some x' → ∃ x, cs[k]? = some x ∧ VtA s.nx sz x x') : Weak N m s ⟨envOf l, heapOf ((s.nx, .row true e []) :: h), s.nx + 1⟩ := by
  intro c a hr hms
  have hn : c.φ s.nx = none := by
    cases hc : c.φ s.nx with
    | none => rfl
    | some x => obtain ⟨j, h1, _⟩ := hr.fresh s.nx (Nat.le_refl _) (by rw [hc]; simp); exact h1.elim
  generalize hd : (⟨c.w, c.B, fun k => if k = s.nx then some none else c.φ k, heapOf ((s.nx, .row true e []) :: h), c.X, c.Y⟩ : Cx) = d
  have dw : d.w = c.w := by rw [← hd]
  have dB : d.B = c.B := by rw [← hd]
  have dX : d.X = c.X := by rw [← hd]
  have dY : d.Y = c.Y := by rw [← hd]
  have dσ : d.σ = heapOf ((s.nx, .row true e []) :: h) := by rw [← hd]
  have dφ : ∀ k, d.φ k = if k = s.nx then some none else c.φ k := by rw [← hd]; intro k; rfl
  have live : ∀ j o, d.σ j = some o → (j = s.nx ∧ o = .row true e []) ∨ (j ≠ s.nx ∧ ∃ y' e' cs cs', c.σ j = some (.row y' e' cs) ∧ o = .row y' e' cs' ∧ cs'.length = cs.length ∧ ∀ (k : Nat) x', cs'[k]? = some x' → ∃ x, cs[k]? = some x ∧ VtA s.nx sz x x') := by
    intro j o hj
    rw [dσ, heapOf] at hj
    split at hj
    · rename_i e1; cases hj; exact .inl ⟨e1, rfl⟩
    · rename_i e1
      obtain ⟨e2, y', e', cs, cs', f1, f2⟩ := hh j o (heapOf_mem hj)
      exact .inr ⟨e1, y', e', cs, cs', by rw [hr.σ]; exact f1, f2⟩
  have hT : ∀ b, d.T b → c.T b := by
    rintro b ⟨k, o, e1, e2⟩
    rcases live k o e1 with ⟨rfl, _⟩ | ⟨f0, y', e', cs, cs', f1, _⟩
    · rw [dφ, if_pos rfl] at e2; cases e2
    · rw [dφ, if_neg f0] at e2; exact ⟨k, _, f1, e2⟩
  have g : Grow c d := Still.grow ⟨dY, dX, dB, by rw [dw], by rw [dw], by rw [dw], by rw [dw]; exact Nat.le_refl _, fun b _ _ => by rw [dw], fun b hb => .inl (hT b hb), fun b cs e f hb => ⟨cs, f, by rw [dw]; exact hb, rfl⟩⟩
  have nm : Names c d := fun k x hk => by rw [dφ, if_neg (by intro e1; rw [e1, hn] at hk; cases hk)]; exact hk
  have vt0 : ∀ {x x' : AV} {u : Value}, VtA s.nx sz x x' → VR c x u → VR d x' u := by
    intro x x' u hf hv
    rcases hf with rfl | ⟨⟨A, rfl⟩, rfl⟩
    · exact hv.mono g nm
    · have : u = .slice A 0 0 := hv
      exact ⟨A, 0, this, Nat.le_refl _, .inl ⟨by rw [dφ, if_pos rfl]; simp, rfl⟩⟩
  refine ⟨d, dw, g, fun id hid => by rw [dφ, if_neg (by omega)], ⟨hr.size, fun t => ?_, ⟨fun j y' e' cs' hs => ?_, fun i i' b e1 e2 e3 e4 => ?_, by rw [dB, dw]; exact hr.hr.base, fun b hb => by rw [dX] at hb; rw [dw]; exact hr.hr.xlt b hb, hr.hr.gl.grow g⟩, dσ, fun k hk hne => ?_⟩, by show m ≤ s.nx + 1; omega⟩
  · simp only
    rcases envOf_mem (l := l) (t := t) with h9 | h9
    · rw [h9]; trivial
    · exact vt0 (hl _ _ h9) (hr.env t)
  · rcases live j _ hs with ⟨rfl, e9⟩ | ⟨f0, y2, e2, cs, cs2, f1, f2, f3, f4⟩
    · cases e9
      exact .inl ⟨by rw [dφ, if_pos rfl], rfl, hneM⟩
    · cases f2
      rcases hr.hr.row j y' e' cs f1 with ⟨g1, g2⟩ | ⟨b, ca, g1, g2, g3, g4, g5⟩
      · refine .inl ⟨by rw [dφ, if_neg f0]; exact g1, ?_, g2.2⟩
        rw [g2.1] at f3
        exact List.eq_nil_of_length_eq_zero f3
      · refine .inr ⟨b, ca, by rw [dφ, if_neg f0]; exact g1, by rw [dw]; exact g2.to f3, ⟨by rw [dB]; exact g3.1, by rw [dX]; exact g3.2⟩, by omega, fun k x' hk => ?_⟩
        obtain ⟨x, k1, k2⟩ := f4 k x' hk
        obtain ⟨u, k3, k4, k5⟩ := g5 k x k1
        exact ⟨u, k3, k4, vt0 k2 k5⟩
  · obtain ⟨o1, ho1⟩ := Option.ne_none_iff_exists'.1 e1
    obtain ⟨o2, ho2⟩ := Option.ne_none_iff_exists'.1 e2
    rcases live i o1 ho1 with ⟨rfl, _⟩ | ⟨f0, _, _, _, _, f1, _⟩
    · rw [dφ, if_pos rfl] at e3; cases e3
    · rcases live i' o2 ho2 with ⟨rfl, _⟩ | ⟨g0, _, _, _, _, f2, _⟩
      · rw [dφ, if_pos rfl] at e4; cases e4
      · rw [dφ, if_neg f0] at e3
        rw [dφ, if_neg g0] at e4
        exact hr.hr.inj i i' b (by rw [f1]; simp) (by rw [f2]; simp) e3 e4
  · simp only at hk
    rw [dφ, if_neg (by omega)] at hne
    obtain ⟨j, h9, _⟩ := hr.fresh k (by omega) hne
    exact h9.elim
/-- a body's end with one new row, the caller's rows gone -/
theorem EndsZ.row1 {nb : Nat} {rs : List RV} {rws : List RW} {out : List (Option (List AV))} {el i : Nat} {y : Bool} {cells c2 : List AV} {r r0 : AV} {e : Exit} {s : ASt} (he : e = .normal ∨ e = .ret) (h : (resL s rs).map tupOf = some r0) (hout : ∀ x ∈ out, x = none) (hol : out.length = rws.length)
    (hσ : s.σ i = some (.row y el cells)) (ac : AlL (fun j => j = i) cells) (ha : Al (fun j => j = i) r0) (hr : Imp (ren (rn [(i, nb)]) r0) r) (hc : renL (rn [(i, nb)]) cells = c2) : EndsZ N 0 rs rws out nb r [(nb, some (.row y el c2))] e s := by
  obtain ⟨l, h2, h3⟩ := Option.map_eq_some_iff.1 h
  have hρ : ∀ ids, ρZ ids 0 [i] nb = rn [(i, nb)] := fun ids => by funext j; simp [ρZ]
  have hS : ∀ j, j = i → SZ out [i] j := fun j hj => .inr (by simp [hj])
  have hk : ∀ (rws : List RW) (out : List (Option (List AV))) (k : Nat), (∀ x ∈ out, x = none) → out.length = rws.length → keepOkZ (SZ out [i]) (rn [(i, nb)]) rws out k s.σ := by
    have aux : ∀ (S : Nat → Prop) (rws : List RW) (out : List (Option (List AV))) (k : Nat), (∀ x ∈ out, x = none) → out.length = rws.length → keepOkZ S (rn [(i, nb)]) rws out k s.σ := by
      intro S rws
      induction rws with
      | nil => intro out k _ h9; cases out with
        | nil => trivial
        | cons a b => simp at h9
      | cons x r ih => intro out k h8 h9; cases out with
        | nil => simp at h9
        | cons a b =>
          have := h8 a (by simp)
          subst this
          exact ih b (k + 1) (fun z hz => h8 z (by simp [hz])) (by simpa using h9)
    exact fun rws out k => aux _ rws out k
  refine ⟨he, s, Weak.refl s, [i], by simp, by rw [hρ]; exact hk rws out 0 hout hol, ⟨by simp, by simp, ⟨l, h2, by rw [h3]; exact Al.mono hS ha, by rw [hρ, h3]; exact hr⟩, [(y, el, c2)], rfl, rfl, fun k j hk => ?_⟩⟩
  rcases k with _ | k
  · simp at hk
    subst hk
    refine ⟨y, el, cells, hσ, AlL.mono hS ac, c2, rfl, by rw [← hc, renL_map, List.length_map], fun q a' hq => ?_⟩
    rw [← hc, renL_map, List.getElem?_map, Option.map_eq_some_iff] at hq
    obtain ⟨a, k1, rfl⟩ := hq
    exact ⟨a, k1, by rw [hρ]; exact Imp.refl _⟩
  · simp at hk
end Go.Proofs.YtonglhkiobibgaaGreatDoor
namespace Go.Proofs.YtonglhkiobibgaaGreatDoor
open Go.RowKit
set_option maxRecDepth 100000
abbrev rwsI (i0 i1 : Nat) (y1 : Bool) (l : List Ent) (x : Ent) : List RW := [(i0, true, 134, eEnts l), (i1, y1, 134, eEnt x)]
theorem insE_walk (l : List Ent) (x : Ent) (i0 i1 nb : Nat) (y1 : Bool) (hne : i0 ≠ i1) (hl : l.length ≤ 1000) :
    wpC Tryz.prog 95 0 ac_222 ⟨envA (renL (rn (((rwsI i0 i1 y1 l x).map (·.1)).zipIdx)) [.os i0 0 l.length 2, .v (.int .i64 l.length), .os i1 0 1 2]), heapOf (rowsIn 0 (inZ (rwsI i0 i1 y1 l x))), 2⟩ (EndsZ 95 0 [.tmp 6] (rwsI i0 i1 y1 l x) [none, none] nb (.os nb 0 (l.length + 1) 2) [(nb, some (.row true 134 (eEnts (l ++ [x]))))]) := by
  have hr0 : rn [(i0, 0), (i1, 1)] i0 = 0 := by simp [rn]
  have hr1 : rn [(i0, 0), (i1, 1)] i1 = 1 := by simp [rn, hne]
  have e1 : eEnts (l ++ [x]) = eEnts l ++ eEnt x := by simp [eEnts]
  simp only [ac_222, renL, ren, rowsIn, inZ, hr0, hr1, ren_Ents, eEnt, List.map_cons, List.map_nil, List.zipIdx_cons, List.zipIdx_nil, Nat.zero_add, List.length_cons, List.length_nil, TT, ↓reduceIte, Nat.reduceEqDiff, Nat.reduceAdd, Nat.reduceMul, reduceCtorEq, Nat.reduceLeDiff]
  have ll : (0 : Int) ≤ (l.length : Int) ∧ (l.length : Int) ≤ (l.length : Int) := ⟨by omega, by omega⟩
  simp only [ll, Int.toNat_natCast, len_Ents, TT, ↓reduceIte, Nat.reduceEqDiff, Nat.reduceAdd, Nat.reduceMul, reduceCtorEq, Nat.reduceLeDiff]
  rw [if_neg (by decide), if_pos (by omega)]
  exact EndsZ.row1 (i := 1700002) (r0 := .os 1700002 0 (l.length + 1) 2) (cells := eEnts l ++ eEnt x) (.inr rfl) (by simp [ET]) (by simp) rfl (by simp [ET, eEnt]) (by rw [AlL_append]; exact ⟨al_Ents l, trivial, trivial, trivial⟩) (by simp [Al]) (by simp [ren, rn]; exact Imp.refl _) (by rw [e1, renL_append, ren_Ents]; rfl)
theorem insE0_walk (x : Ent) (A : Option Addr) (i1 nb : Nat) (y1 : Bool) :
    AWc Tryz.prog 95 0 ac_222 ⟨envA (renL (rn (([(i1, y1, 134, eEnt x)] : List RW).map (·.1)).zipIdx) [.v (.slice A 0 0), .v (.int .i64 0), .os i1 0 1 2]), heapOf (rowsIn 0 (inZ [(i1, y1, 134, eEnt x)])), 1⟩ (EndsZ 95 0 [.tmp 6] [(i1, y1, 134, eEnt x)] [none] nb (.os nb 0 1 2) [(nb, some (.row true 134 (eEnts [x])))]) := by
  have hr1 : rn [(i1, 0)] i1 = 0 := by simp [rn]
  have hw : Weak 95 0 ⟨envA (renL (rn (([(i1, y1, 134, eEnt x)] : List RW).map (·.1)).zipIdx) [.v (.slice A 0 0), .v (.int .i64 0), .os i1 0 1 2]), heapOf (rowsIn 0 (inZ [(i1, y1, 134, eEnt x)])), 1⟩ ⟨envOf [(0, .os 1 0 0 2), (1, .v (.int .i64 0)), (2, .os 0 0 1 2)], heapOf [(1, .row true 134 []), (0, .row y1 134 (eEnt x))], 2⟩ := by
    refine Weak.virtA 134 2 (by decide) [(0, .os 1 0 0 2), (1, .v (.int .i64 0)), (2, .os 0 0 1 2)] [(0, .row y1 134 (eEnt x))] (fun t v hm => ?_) (fun j o hm => ?_)
    · simp only [List.mem_cons, Prod.mk.injEq, List.not_mem_nil, or_false] at hm
      rcases hm with ⟨rfl, rfl⟩ | ⟨rfl, rfl⟩ | ⟨rfl, rfl⟩
      · exact .inr ⟨⟨A, rfl⟩, rfl⟩
      · exact .inl rfl
      · left; simp [envA, renL, ren, hr1]
    · simp only [List.mem_cons, Prod.mk.injEq, List.not_mem_nil, or_false] at hm
      obtain ⟨rfl, rfl⟩ := hm
      refine ⟨show 0 < 1 by decide, y1, _, eEnt x, eEnt x, ?_, rfl, rfl, fun k x' hk => ⟨x', hk, .inl rfl⟩⟩
      simp [rowsIn, inZ, heapOf, eEnt, renL, ren]
  refine AWc.weak hw (wpC_sound ?_)
  simp only [ac_222, eEnt, TT, ↓reduceIte, Nat.reduceEqDiff, Nat.reduceAdd, Nat.reduceMul, reduceCtorEq, Nat.reduceLeDiff]
  have c0 : ((0 : Nat) : Int) = 0 := rfl
  simp only [c0, Int.le_refl, and_self, Int.toNat_zero, TT, ↓reduceIte, Nat.reduceEqDiff, Nat.reduceAdd, Nat.reduceMul, reduceCtorEq, Nat.reduceLeDiff]
  exact EndsZ.row1 (i := 1700002) (r0 := .os 1700002 0 1 2) (cells := eEnt x) (.inr rfl) (by simp [ET]) (by simp) rfl (by simp [ET, eEnt]) ⟨trivial, trivial, trivial⟩ (by simp [Al]) (by simp [ren, rn]; exact Imp.refl _) rfl
theorem insE_spec (l : List Ent) (x : Ent) (i0 i1 nb : Nat) (y1 : Bool) (hne : i0 ≠ i1) (h0 : i0 < nb) (h1 : i1 < nb) (hl : l.length ≤ 1000) :
    ASound Tryz.prog 222 [.os i0 0 l.length 2, .v (.int .i64 l.length), .os i1 0 1 2] nb (rowsM (rwsI i0 i1 y1 l x) (.ret (.os nb 0 (l.length + 1) 2) (outW (rwsI i0 i1 y1 l x) [none, none] ++ [(nb, some (.row true 134 (eEnts (l ++ [x]))))]))) := by
  refine ⟨by rfl, fun c us r R W hrun hr hfr hv => ?_⟩
  obtain ⟨hσ, R', hrun2⟩ := rowsM_run hrun
  have hb1 : ∃ b, c.φ i1 = some (some b) := by
    rcases hr.row i1 _ _ _ (hσ 1 _ rfl) with ⟨_, h, _⟩ | ⟨b, _, h, _⟩
    · simp [eEnt] at h
    · exact ⟨b, h⟩
  have hv0 := hv
  obtain ⟨u, us', rfl, hu, hv1⟩ := hv
  obtain ⟨A, k, rfl, hk, hcase⟩ := hu
  rcases hcase with ⟨hφ, rfl⟩ | ⟨b, hφ, rfl, _⟩
  · have hz : l.length = 0 := by omega
    have hl0 : l = [] := List.eq_nil_of_length_eq_zero hz
    subst hl0
    have h9 : c.σ i1 = some (.row y1 134 (eEnt x)) := hσ 1 _ rfl
    have hA : ASound Tryz.prog 222 [.v (.slice A 0 0), .v (.int .i64 0), .os i1 0 1 2] nb (rowsM [(i1, y1, 134, eEnt x)] (.ret (.os nb 0 1 2) (outW [(i1, y1, 134, eEnt x)] [none] ++ [(nb, some (.row true 134 (eEnts [x])))]))) := by
      refine ok_222.soundZc 0 [(i1, y1, 134, eEnt x)] [none] (by simp) ⟨trivial, trivial, by simp [Al], trivial⟩ (by simp) (fun z hz => ?_) rfl (by simp) (fun k cl hk => ?_) (insE0_walk x A i1 nb y1)
      · simp only [List.mem_cons, List.not_mem_nil, or_false] at hz
        subst hz
        exact ⟨.inl (by simp [eEnt]), ⟨trivial, trivial, trivial⟩, h1⟩
      · rcases k with _ | k <;> simp at hk
    have hrun3 : (rowsM [(i1, y1, 134, eEnt x)] (.ret (.os nb 0 1 2) (outW [(i1, y1, 134, eEnt x)] [none] ++ [(nb, some (.row true 134 (eEnts [x])))]))).run c.σ = some (.os nb 0 1 2, [i1], (outW [(i1, y1, 134, eEnt x)] [none] ++ [(nb, some (.row true 134 (eEnts [x])))])) := by
      simp [rowsM, rowM, AM.run, h9]
    simp [AM.run] at hrun2
    obtain ⟨rfl, _, rfl⟩ := hrun2
    refine Calls.mono (hA.2 c _ _ _ _ hrun3 hr hfr ⟨_, us', rfl, rfl, hv1⟩) ?_
    rintro e w' ⟨v, d, rfl, rfl, hvd, T⟩
    have D := Then.drop T.hr nb i0
    refine ⟨v, ⟨d.w, d.B, d.φ, app d.σ [(i0, none)], d.X, d.Y⟩, rfl, rfl, hvd.mono D.grow D.names, (T.trans D).eqW ?_⟩
    funext q
    simp only [outW, rwsI, Option.map_none, List.cons_append, List.nil_append, app, List.length_nil]
    by_cases q0 : q = i0
    · subst q0
      simp [hne, show ¬ q = nb by omega]
    · simp [q0]
  · have hrs : compRes Tryz.prog (Tryz.f222).results.toList = some [.tmp 6] := by rfl
    have h := ok_222.soundZB 0 (rwsI i0 i1 y1 l x) [none, none] (args := [.os i0 0 l.length 2, .v (.int .i64 l.length), .os i1 0 1 2]) (nb := nb) (by simp) ⟨by simp [Al], trivial, by simp [Al], trivial⟩ (by simp [hne]) (fun z hz => ?_) rfl (by simp) (fun k cl hk => ?_) (insE_walk l x i0 i1 nb y1 hne hl) hrun hr hfr hv0 (fun z hz => ?_)
    · exact h
    · simp only [List.mem_cons, List.not_mem_nil, or_false] at hz
      rcases hz with rfl | rfl
      · exact ⟨al_Ents l, h0⟩
      · exact ⟨⟨trivial, trivial, trivial⟩, h1⟩
    · rcases k with _ | _ | k <;> simp at hk
    · simp only [List.mem_cons, List.not_mem_nil, or_false] at hz
      rcases hz with rfl | rfl
      · exact ⟨b, hφ⟩
      · exact hb1
end Go.Proofs.YtonglhkiobibgaaGreatDoor
namespace Go.Proofs.YtonglhkiobibgaaGreatDoor
set_option maxRecDepth 100000
def ac_CK3 : AC :=
(.seq (.reg false [⟨some 115, .mkmap , none, [], []⟩,
    ⟨some 12, .mv (.tmp 115), none, [115], []⟩] [1, 12])
(.seq (.seq (.reg false [⟨some 116, .mv (.tmp 12), none, [12], []⟩,
    ⟨some 117, .call 87 [(.tmp 1), (.const (.int .i64 (1))), (.const (.int .i64 (8))), (.tmp 116)], none, [1, 116], []⟩] [1, 12])
(.seq (.reg false [⟨some 118, .mv (.tmp 12), none, [12], []⟩,
    ⟨some 119, .mlen (.tmp 118), none, [118], []⟩,
    ⟨some 120, .foff 0 (.tmp 1), none, [1], []⟩,
    ⟨some 121, .load false 1 (.tmp 120), none, [120], []⟩,
    ⟨some 122, .len false (.tmp 121), none, [121], []⟩,
    ⟨some 123, .bin .neq (.tmp 119) (.tmp 122), none, [119, 122], []⟩,
    ⟨some 124, .mv (.tmp 123), none, [123], []⟩,
    ⟨some 125, .call 88 [(.tmp 1), (.const (.int .i64 (1))), (.const (.int .i64 (8)))], some (124, false), [1, 124], []⟩,
    ⟨some 126, .bin .gtr (.tmp 125) (.const (.int .i64 (8))), some (124, false), [125, 124], []⟩,
    ⟨some 127, .pick (.tmp 124) (.const (.bool true)) (.tmp 126), none, [124, 126], []⟩] [127])
(.cond (.tmp 127)
(.seq (.reg false [⟨some 2, .mv (.const (.int .i64 (9))), none, [], []⟩] [2])
.ret)
.skip)))
(.seq (.reg false [⟨some 2, .mv (.const (.int .i64 (0))), none, [], []⟩] [2])
.ret)))
def ac_CK2 : AC :=
(.seq (.seq (.reg false [⟨some 95, .foff 0 (.tmp 1), none, [1], []⟩,
    ⟨some 96, .load false 1 (.tmp 95), none, [95], []⟩,
    ⟨some 97, .len false (.tmp 96), none, [96], []⟩,
    ⟨some 98, .mv (.const (.int .i64 (0))), none, [], []⟩] [1, 3, 97, 98])
(.block 4 (.loop (.seq (.reg false [⟨some 99, .bin .lss (.tmp 98) (.tmp 97), none, [98, 97], []⟩] [1, 3, 97, 98, 99])
(.seq (.cond (.tmp 99)
.skip
(.exit 4))
(.seq (.block 5 (.seq (.reg false [⟨some 100, .mv (.tmp 98), none, [98], []⟩,
    ⟨some 10, .mv (.tmp 100), none, [100], []⟩] [1, 3, 10, 97, 98])
(.seq (.reg false [⟨some 101, .foff 0 (.tmp 1), none, [1], []⟩,
    ⟨some 102, .load false 1 (.tmp 101), none, [101], []⟩,
    ⟨some 103, .mv (.tmp 10), none, [10], []⟩,
    ⟨some 104, .idx 6 (.tmp 102) (.tmp 103), none, [102, 103], []⟩,
    ⟨some 11, .mv (.tmp 104), none, [104], []⟩] [1, 3, 11, 97, 98])
(.seq (.reg false [⟨some 105, .mv (.tmp 11), none, [11], []⟩,
    ⟨some 106, .mv (.tmp 3), none, [3], []⟩,
    ⟨some 107, .mv (.tmp 11), none, [11], []⟩,
    ⟨some 108, .nilc (.tmp 107), none, [107], []⟩,
    ⟨some 109, .foff 0 (.tmp 108), none, [108], []⟩,
    ⟨some 110, .load false 1 (.tmp 109), none, [109], []⟩,
    ⟨some 111, .mlook (.int .i64 (0)) false (.tmp 106) (.tmp 110), none, [106, 110], []⟩,
    ⟨some 112, .call 86 [(.tmp 105), (.tmp 111)], none, [105, 111], []⟩,
    ⟨some 113, .un .not (.tmp 112), none, [112], []⟩] [1, 3, 97, 98, 113])
(.cond (.tmp 113)
(.seq (.reg false [⟨some 2, .mv (.const (.int .i64 (9))), none, [], []⟩] [2])
.ret)
.skip)))))
(.reg false [⟨some 114, .bin .add (.tmp 98) (.const (.int .i64 (1))), none, [98], []⟩,
    ⟨some 98, .mv (.tmp 114), none, [114], []⟩] [1, 3, 97, 98])))))))
(.weak ac_CK3))
def ac_CK1 : AC :=
(.seq (.seq (.reg false [⟨some 13, .foff 1 (.tmp 1), none, [1], []⟩,
    ⟨some 14, .load false 1 (.tmp 13), none, [13], []⟩,
    ⟨some 15, .bin .leq (.tmp 14) (.const (.int .i64 (1))), none, [14], []⟩,
    ⟨some 16, .mv (.tmp 15), none, [15], []⟩,
    ⟨some 17, .foff 1 (.tmp 1), some (16, false), [1, 16], []⟩,
    ⟨some 18, .load false 1 (.tmp 17), some (16, false), [17, 16], []⟩,
    ⟨some 19, .bin .gtr (.tmp 18) (.const (.int .i64 (2147483647))), some (16, false), [18, 16], []⟩,
    ⟨some 20, .pick (.tmp 16) (.const (.bool true)) (.tmp 19), none, [16, 19], []⟩,
    ⟨some 21, .mv (.tmp 20), none, [20], []⟩,
    ⟨some 22, .foff 0 (.tmp 1), some (21, false), [1, 21], []⟩,
    ⟨some 23, .load false 1 (.tmp 22), some (21, false), [22, 21], []⟩,
    ⟨some 24, .len false (.tmp 23), some (21, false), [23, 21], []⟩,
    ⟨some 25, .bin .eql (.tmp 24) (.const (.int .i64 (0))), some (21, false), [24, 21], []⟩,
    ⟨some 26, .pick (.tmp 21) (.const (.bool true)) (.tmp 25), none, [21, 25], []⟩,
    ⟨some 27, .mv (.tmp 26), none, [26], []⟩,
    ⟨some 28, .foff 0 (.tmp 1), some (27, false), [1, 27], []⟩,
    ⟨some 29, .load false 1 (.tmp 28), some (27, false), [28, 27], []⟩,
    ⟨some 30, .len false (.tmp 29), some (27, false), [29, 27], []⟩,
    ⟨some 31, .bin .gtr (.tmp 30) (.const (.int .i64 (128))), some (27, false), [30, 27], []⟩,
    ⟨some 32, .pick (.tmp 27) (.const (.bool true)) (.tmp 31), none, [27, 31], []⟩,
    ⟨some 33, .mv (.tmp 32), none, [32], []⟩,
    ⟨some 34, .foff 0 (.tmp 1), some (33, false), [1, 33], []⟩,
    ⟨some 35, .load false 1 (.tmp 34), some (33, false), [34, 33], []⟩,
    ⟨some 36, .idx 6 (.tmp 35) (.const (.int .i64 (0))), some (33, false), [35, 33], []⟩,
    ⟨some 37, .foff 0 (.tmp 36), some (33, false), [36, 33], []⟩,
    ⟨some 38, .load false 1 (.tmp 37), some (33, false), [37, 33], []⟩,
    ⟨some 39, .bin .neq (.tmp 38) (.const (.int .i64 (1))), some (33, false), [38, 33], []⟩,
    ⟨some 40, .pick (.tmp 33) (.const (.bool true)) (.tmp 39), none, [33, 39], []⟩] [1, 40])
(.cond (.tmp 40)
(.seq (.reg false [⟨some 2, .mv (.const (.int .i64 (9))), none, [], []⟩] [2])
.ret)
.skip))
(.seq (.reg false [⟨some 41, .mkmap , none, [], []⟩,
    ⟨some 3, .mv (.tmp 41), none, [41], []⟩] [1, 3])
(.seq (.seq (.reg false [⟨some 42, .foff 0 (.tmp 1), none, [1], []⟩,
    ⟨some 43, .load false 1 (.tmp 42), none, [42], []⟩,
    ⟨some 44, .len false (.tmp 43), none, [43], []⟩,
    ⟨some 45, .mv (.const (.int .i64 (0))), none, [], []⟩] [1, 3, 43, 44, 45])
(.block 0 (.loop (.seq (.reg false [⟨some 46, .bin .lss (.tmp 45) (.tmp 44), none, [45, 44], []⟩] [1, 3, 43, 44, 45, 46])
(.seq (.cond (.tmp 46)
.skip
(.exit 0))
(.seq (.block 1 (.seq (.reg false [⟨some 47, .mv (.tmp 45), none, [45], []⟩,
    ⟨some 48, .idx 6 (.tmp 43) (.tmp 45), none, [43, 45], []⟩,
    ⟨some 49, .load true 6 (.tmp 48), none, [48], []⟩,
    ⟨some 5, .new 118 [(.int .i64 (0)), (.bool false), (.int .i64 (0)), (.slice none 0 0), (.int .i64 (0)), (.slice none 0 0)], none, [], []⟩,
    ⟨some 4, .mv (.tmp 47), none, [47], []⟩,
    ⟨none, .store 6 (.tmp 5) (.tmp 49), none, [5, 49], []⟩] [1, 3, 4, 5, 43, 44, 45])
(.seq (.seq (.reg true [⟨some 50, .foff 0 (.tmp 5), none, [5], []⟩,
    ⟨some 51, .load false 1 (.tmp 50), none, [50], [0]⟩,
    ⟨some 52, .foff 1 (.tmp 1), none, [1], []⟩,
    ⟨some 53, .load false 1 (.tmp 52), none, [52], [2]⟩,
    ⟨some 54, .bin .geq (.tmp 51) (.tmp 53), none, [51, 53], [1, 3, 0, 2]⟩,
    ⟨some 55, .mv (.tmp 54), none, [54], [4, 1, 3, 0, 2]⟩,
    ⟨some 56, .mv (.tmp 4), some (55, false), [4, 55], [5, 4, 1, 3, 0, 2]⟩,
    ⟨some 57, .bin .gtr (.tmp 56) (.const (.int .i64 (0))), some (55, false), [56, 55], [6, 5, 4, 1, 3, 0, 2]⟩,
    ⟨some 58, .mv (.tmp 57), some (55, false), [57, 55], [7, 5, 6, 4, 1, 3, 0, 2]⟩,
    ⟨some 59, .foff 0 (.tmp 5), some (58, true), [5, 58], [8, 7, 5, 6, 4, 1, 3, 0, 2]⟩,
    ⟨some 60, .load false 1 (.tmp 59), some (58, true), [59, 58], [9, 8, 7, 5, 6, 4, 1, 3, 0, 2]⟩,
    ⟨some 61, .foff 0 (.tmp 1), some (58, true), [1, 58], [8, 7, 5, 6, 4, 1, 3, 0, 2]⟩,
    ⟨some 62, .load false 1 (.tmp 61), some (58, true), [61, 58], [11, 8, 7, 5, 6, 4, 1, 3, 0, 2]⟩,
    ⟨some 63, .mv (.tmp 4), some (58, true), [4, 58], [8, 7, 5, 6, 4, 1, 3, 0, 2]⟩,
    ⟨some 64, .bin .sub (.tmp 63) (.const (.int .i64 (1))), some (58, true), [63, 58], [13, 8, 7, 5, 6, 4, 1, 3, 0, 2]⟩,
    ⟨some 65, .idx 6 (.tmp 62) (.tmp 64), some (58, true), [62, 64, 58], [12, 14, 8, 11, 7, 5, 6, 4, 1, 3, 0, 2, 13]⟩,
    ⟨some 66, .foff 0 (.tmp 65), some (58, true), [65, 58], [15, 8, 12, 14, 11, 7, 5, 6, 4, 1, 3, 0, 2, 13]⟩,
    ⟨some 67, .load false 1 (.tmp 66), some (58, true), [66, 58], [16, 8, 15, 12, 14, 11, 7, 5, 6, 4, 1, 3, 0, 2, 13]⟩,
    ⟨some 68, .bin .leq (.tmp 60) (.tmp 67), some (58, true), [60, 67, 58], [10, 17, 8, 9, 7, 5, 6, 4, 1, 3, 0, 2, 16, 15, 12, 14, 11, 13]⟩,
    ⟨some 69, .pick (.tmp 58) (.tmp 68) (.const (.bool false)), some (55, false), [58, 68, 55], [8, 18, 5, 7, 6, 4, 1, 3, 0, 2, 10, 17, 9, 16, 15, 12, 14, 11, 13]⟩,
    ⟨some 70, .pick (.tmp 55) (.const (.bool true)) (.tmp 69), none, [55, 69], [5, 19, 4, 1, 3, 0, 2, 8, 18, 7, 6, 10, 17, 9, 16, 15, 12, 14, 11, 13]⟩] [1, 3, 5, 43, 44, 45, 70])
(.cond (.tmp 70)
(.seq (.reg false [⟨some 2, .mv (.const (.int .i64 (9))), none, [], []⟩] [2])
.ret)
.skip))
(.seq (.reg false [⟨some 71, .foff 3 (.tmp 5), none, [5], []⟩,
    ⟨some 72, .load false 1 (.tmp 71), none, [71], []⟩,
    ⟨some 73, .len false (.tmp 72), none, [72], []⟩,
    ⟨some 74, .mv (.const (.int .i64 (0))), none, [], []⟩] [1, 3, 43, 44, 45, 72, 73, 74])
(.block 2 (.loop (.seq (.reg false [⟨some 75, .bin .lss (.tmp 74) (.tmp 73), none, [74, 73], []⟩] [1, 3, 43, 44, 45, 72, 73, 74, 75])
(.seq (.cond (.tmp 75)
.skip
(.exit 2))
(.seq (.block 3 (.seq (.reg false [⟨some 76, .idx 2 (.tmp 72) (.tmp 74), none, [72, 74], []⟩,
    ⟨some 77, .load true 2 (.tmp 76), none, [76], []⟩,
    ⟨some 7, .new 134 [(.string (ByteArray.mk #[])), (.int .i64 (0))], none, [], []⟩,
    ⟨none, .store 2 (.tmp 7) (.tmp 77), none, [7, 77], []⟩] [1, 3, 7, 43, 44, 45, 72, 73, 74])
(.seq (.reg false [⟨some 78, .mv (.tmp 3), none, [3], []⟩,
    ⟨some 79, .foff 1 (.tmp 7), none, [7], []⟩,
    ⟨some 80, .load false 1 (.tmp 79), none, [79], []⟩,
    ⟨some 81, .mlook (.int .i64 (0)) false (.tmp 78) (.tmp 80), none, [78, 80], []⟩,
    ⟨some 82, .bin .add (.tmp 81) (.const (.int .i64 (1))), none, [81], []⟩,
    ⟨none, .mupd (.tmp 78) (.tmp 80) (.tmp 82), none, [78, 80, 82], []⟩] [1, 3, 7, 43, 44, 45, 72, 73, 74])
(.seq (.reg false [⟨some 84, .foff 0 (.tmp 1), none, [1], []⟩,
    ⟨some 85, .load false 1 (.tmp 84), none, [84], []⟩,
    ⟨some 86, .foff 1 (.tmp 7), none, [7], []⟩,
    ⟨some 87, .load false 1 (.tmp 86), none, [86], []⟩,
    ⟨some 88, .call 83 [(.tmp 85), (.tmp 87), (.func 84)], none, [85, 87], []⟩,
    ⟨some 83, .mv (.tmp 88), none, [88], []⟩,
    ⟨some 89, .ext 0 (.tmp 83), none, [83], []⟩,
    ⟨some 90, .ext 1 (.tmp 83), none, [83], []⟩,
    ⟨some 8, .mv (.tmp 89), none, [89], []⟩,
    ⟨some 9, .mv (.tmp 90), none, [90], []⟩] [1, 3, 9, 43, 44, 45, 72, 73, 74])
(.seq (.reg false [⟨some 91, .mv (.tmp 9), none, [9], []⟩,
    ⟨some 92, .un .not (.tmp 91), none, [91], []⟩] [1, 3, 43, 44, 45, 72, 73, 74, 92])
(.cond (.tmp 92)
(.seq (.reg false [⟨some 2, .mv (.const (.int .i64 (9))), none, [], []⟩] [2])
.ret)
.skip))))))
(.reg false [⟨some 93, .bin .add (.tmp 74) (.const (.int .i64 (1))), none, [74], []⟩,
    ⟨some 74, .mv (.tmp 93), none, [93], []⟩] [1, 3, 43, 44, 45, 72, 73, 74]))))))))))
(.reg false [⟨some 94, .bin .add (.tmp 45) (.const (.int .i64 (1))), none, [45], []⟩,
    ⟨some 45, .mv (.tmp 94), none, [94], []⟩] [1, 3, 43, 44, 45])))))))
(.weak ac_CK2))))
def ac_CKc : AC :=
(.seq (.reg false [⟨some 1, .box 28 (.tmp 0), none, [0], []⟩,
    ⟨some 2, .mv (.const (.int .i64 (0))), none, [], []⟩] [1])
(.weak ac_CK1))
theorem ok_CKc : FnOk Tryz.prog 32 128 ac_CKc [.tmp 2] := ⟨Tryz.f32, Tryz.func32, by kernel_rfl, by kernel_rfl, by kernel_rfl, by kernel_rfl, by kernel_rfl⟩
end Go.Proofs.YtonglhkiobibgaaGreatDoor
namespace Go.Proofs.YtonglhkiobibgaaGreatDoor
open Go.RowKit
set_option maxRecDepth 100000
set_option maxHeartbeats 1000000 in
theorem ck3_spec (fr : Bool) (s : FSt) (nb : Nat) (hl : s.nodes.length ≤ 140737488355328) (hok : okE s) (h1 : hasN s.nodes 1) :
    wpC Tryz.prog 128 0 ac_CK3 ⟨envOf [(1, pFs true fr s)], heapOf [], 1⟩ (Ends 128 [.tmp 2] nb (.v (.int .i64 (if chk3 s = true then 0 else 9))) []) := by
  have hr := fun nb id h => reached_spec true fr true s hl hok 8 1 8 [] id nb h (by decide) rfl h1
  have hd := fun nb => depth_spec true fr s hl hok 9 1 8 nb (by decide) (by decide) h1
  have e0 : encB [] = [] := rfl
  have hlen : (encB (rch s 8 1 [])).length / 2 = (rch s 8 1 []).length := by rw [len_encB]; omega
  simp only [pFs, fNds, rowsM, outW, Option.map_some, e0] at hr
  simp only [pFs, fNds] at hd
  simp only [ac_CK3, pFs, fNds, TT, ↓reduceIte, Nat.reduceEqDiff, Nat.reduceAdd, Nat.reduceMul, reduceCtorEq, Nat.reduceLeDiff]
  refine ⟨_, hr _ _ (by decide), ?_⟩
  by_cases c1 : (rch s 8 1 []).length = s.nodes.length
  · have g1 : (((rch s 8 1 []).length : Int) = (s.nodes.length : Int)) = True := eq_true (by omega)
    simp only [hlen, g1, decide_true, Bool.not_true, TT, ↓reduceIte, Nat.reduceEqDiff, Nat.reduceAdd, Nat.reduceMul, reduceCtorEq, Nat.reduceLeDiff]
    refine ⟨_, hd _, ?_⟩
    by_cases c2 : dpt s 9 1 ≤ 8
    · have g2 : (8 < dpt s 9 1) = False := eq_false (by omega)
      simp only [g2, decide_false, TT, ↓reduceIte, Nat.reduceEqDiff, Nat.reduceAdd, Nat.reduceMul, reduceCtorEq, Nat.reduceLeDiff]
      exact Ends.data (.inr rfl) (by simp [ET, chk3, c1, c2]) trivial
    · have g2 : (8 < dpt s 9 1) = True := eq_true (by omega)
      simp only [g2, decide_true, TT, ↓reduceIte, Nat.reduceEqDiff, Nat.reduceAdd, Nat.reduceMul, reduceCtorEq, Nat.reduceLeDiff]
      exact Ends.data (.inr rfl) (by simp [ET, chk3, c1, c2]) trivial
  · have g1 : (((rch s 8 1 []).length : Int) = (s.nodes.length : Int)) = False := eq_false (by omega)
    simp only [hlen, g1, decide_false, Bool.not_false, TT, ↓reduceIte, Nat.reduceEqDiff, Nat.reduceAdd, Nat.reduceMul, reduceCtorEq, Nat.reduceLeDiff]
    exact Ends.data (.inr rfl) (by simp [ET, chk3, c1]) trivial
theorem chk2_drop {s : FSt} {ks : List (Int × Int)} {l : List Nd} {i : Nat} {n : Nd} (h : l[i]? = some n) : chk2 s ks (l.drop i) = (mayN n (getM n.ino ks) && chk2 s ks (l.drop (i + 1))) := by
  have hi := (List.getElem?_eq_some_iff.1 h)
  rw [List.drop_eq_getElem_cons hi.1, hi.2]
  simp [chk2]
abbrev L_c2 (fr : Bool) (s : FSt) (ks : List (Int × Int)) (i : Nat) : ASt := ⟨envOf [(1, pFs true fr s), (3, .mp 0), (97, .v (.int .i64 s.nodes.length)), (98, .v (.int .i64 i))], heapOf [(0, .row true MAPE (encM ks))], 1⟩
set_option maxHeartbeats 1000000 in
theorem ck2_spec (fr : Bool) (s : FSt) (ks : List (Int × Int)) (nb : Nat) (hl : s.nodes.length ≤ 140737488355328) (hb : ∀ n ∈ s.nodes, n.file.blocks.length ≤ 140737488355328) (hok : okE s) (h1 : hasN s.nodes 1) :
    wpC Tryz.prog 128 0 ac_CK2 ⟨envOf [(1, pFs true fr s), (3, .mp 0)], heapOf [(0, .row true MAPE (encM ks))], 1⟩ (Ends 128 [.tmp 2] nb (.v (.int .i64 (if chk2 s ks s.nodes = true ∧ chk3 s = true then 0 else 9))) []) := by
  simp only [ac_CK2, pFs, fNds, TT, ↓reduceIte, Nat.reduceEqDiff, Nat.reduceAdd, Nat.reduceMul, reduceCtorEq, Nat.reduceLeDiff]
  refine AWc.family (L_c2 fr s ks) (fun i => i ≤ s.nodes.length ∧ chk2 s ks (s.nodes.drop i) = chk2 s ks s.nodes) (fun i => s.nodes.length - i) 0 ⟨Nat.zero_le _, rfl⟩ ?_ ?_
  · refine Weak.calc [(0, 0)] (by decide) ?_ ?_ <;> simp [WT, al_encM, ren_encM, pFs, fNds, al_Nds, ren_Nds]
  · rintro i ⟨hi, he⟩
    by_cases hlt : i < s.nodes.length
    · obtain ⟨n, hx, e1, e0⟩ := lt_at hlt
      obtain ⟨a0, a1, a2, a3, a4, a5⟩ := get_Nds (fr := fr) hx
      have hm := fun nb => may_spec fr s.nodes i n (getM n.ino ks) nb hx (hb n (List.mem_of_getElem? hx))
      rw [chk2_drop hx] at he
      rcases mfind_encM n.ino ks with ⟨hM, hg⟩ | hM
      · rw [hg] at hm
        simp only [L_c2, pFs, fNds, e1, e0, a0, hM, Int.toNat_natCast, TT, ↓reduceIte, Nat.reduceEqDiff, Nat.reduceAdd, Nat.reduceMul, reduceCtorEq, Nat.reduceLeDiff]
        refine ⟨_, hm _, ?_⟩
        cases hmy : mayN n 0
        · rw [hg, hmy, Bool.false_and] at he
          simp only [Bool.not_false, TT, ↓reduceIte, Nat.reduceEqDiff, Nat.reduceAdd, Nat.reduceMul, reduceCtorEq, Nat.reduceLeDiff]
          exact Ends.data (.inr rfl) (by simp [ET, ← he]) trivial
        · simp only [Bool.not_true, TT, ↓reduceIte, Nat.reduceEqDiff, Nat.reduceAdd, Nat.reduceMul, reduceCtorEq, Nat.reduceLeDiff]
          refine famC_next (i + 1) (by omega) ⟨by omega, by rw [← he, hg, hmy, Bool.true_and]⟩ ?_
          refine Weak.calc [(0, 0)] (by decide) ?_ ?_ <;> simp [WT, al_encM, ren_encM, pFs, fNds, al_Nds, ren_Nds, wrap64 (x := (i : Int) + 1) (by omega)]
      · simp only [L_c2, pFs, fNds, e1, e0, a0, hM, Int.toNat_natCast, TT, ↓reduceIte, Nat.reduceEqDiff, Nat.reduceAdd, Nat.reduceMul, reduceCtorEq, Nat.reduceLeDiff]
        refine ⟨_, hm _, ?_⟩
        cases hmy : mayN n (getM n.ino ks)
        · rw [hmy, Bool.false_and] at he
          simp only [Bool.not_false, TT, ↓reduceIte, Nat.reduceEqDiff, Nat.reduceAdd, Nat.reduceMul, reduceCtorEq, Nat.reduceLeDiff]
          exact Ends.data (.inr rfl) (by simp [ET, ← he]) trivial
        · simp only [Bool.not_true, TT, ↓reduceIte, Nat.reduceEqDiff, Nat.reduceAdd, Nat.reduceMul, reduceCtorEq, Nat.reduceLeDiff]
          refine famC_next (i + 1) (by omega) ⟨by omega, by rw [← he, hmy, Bool.true_and]⟩ ?_
          refine Weak.calc [(0, 0)] (by decide) ?_ ?_ <;> simp [WT, al_encM, ren_encM, pFs, fNds, al_Nds, ren_Nds, wrap64 (x := (i : Int) + 1) (by omega)]
    · obtain rfl : i = s.nodes.length := by omega
      have e1 : ¬ ((s.nodes.length : Int) < (s.nodes.length : Int)) := by omega
      have h9 : chk2 s ks s.nodes = true := by rw [← he, List.drop_length]; simp [chk2]
      simp only [L_c2, pFs, fNds, e1, TT, ↓reduceIte, Nat.reduceEqDiff, Nat.reduceAdd, Nat.reduceMul, reduceCtorEq, Nat.reduceLeDiff]
      refine ⟨⟨envOf [(1, pFs true fr s)], heapOf [], 1⟩, ?_, ?_⟩
      · refine Weak.calc [] (by decide) ?_ ?_ <;> simp [WT, pFs, fNds, al_Nds, ren_Nds]
      · have h := ck3_spec fr s nb hl hok h1
        have e : (if chk2 s ks s.nodes = true ∧ chk3 s = true then (0 : Int) else 9) = if chk3 s = true then 0 else 9 := by simp [h9]
        rw [e]
        exact h
end Go.Proofs.YtonglhkiobibgaaGreatDoor
namespace Go.Proofs.YtonglhkiobibgaaGreatDoor
open Go.RowKit
set_option maxRecDepth 100000
theorem inosN_len : ∀ {l : List Nd}, (∀ n ∈ l, n.entries.length ≤ 140737488355328) → (inosN l).length ≤ l.length * 140737488355328
  | [], _ => by simp [inosN]
  | n :: l, h => by
    have h1 := h n (by simp)
    have h2 := inosN_len (l := l) (fun m hm => h m (by simp [hm]))
    simp only [inosN, List.flatMap_cons, List.length_append, List.length_map, List.length_cons] at h2 ⊢
    omega
theorem inosN_s {l : List Nd} {i : Nat} {n : Nd} (h : l[i]? = some n) : inosN (l.take (i + 1)) = inosN (l.take i) ++ n.entries.map Ent.ino := by
  rw [take_snoc h, inosN, List.flatMap_append]; simp [inosN]
abbrev ksJ (s : FSt) (i : Nat) (n : Nd) (j : Nat) : List Int := inosN (s.nodes.take i) ++ (n.entries.take j).map Ent.ino
theorem ksJ_s {s : FSt} {i j : Nat} {n : Nd} {e : Ent} (h : n.entries[j]? = some e) : ksJ s i n (j + 1) = ksJ s i n j ++ [e.ino] := by
  unfold ksJ
  rw [take_snoc h]; simp
theorem ksJ_len {s : FSt} {i j : Nat} {n : Nd} (hi : i ≤ 128) (hb : ∀ n ∈ s.nodes, n.entries.length ≤ 140737488355328) (hj : j ≤ 140737488355328) : (ksJ s i n j).length ≤ 1000000000000000000 := by
  have h := inosN_len (l := s.nodes.take i) (fun n hn => hb n (List.mem_of_mem_take hn))
  have h2 : (s.nodes.take i).length ≤ i := by rw [List.length_take]; omega
  have h3 : (s.nodes.take i).length * 140737488355328 ≤ 128 * 140737488355328 := Nat.mul_le_mul_right _ (by omega)
  simp only [ksJ, List.length_append, List.length_map, List.length_take]
  omega
abbrev L_c1 (fr : Bool) (s : FSt) (i : Nat) : ASt := ⟨envOf [(1, pFs true fr s), (3, .mp 0), (43, fNds fr s.nodes), (44, .v (.int .i64 s.nodes.length)), (45, .v (.int .i64 i))], heapOf [(0, .row true MAPE (encM (lkM (inosN (s.nodes.take i)))))], 1⟩
abbrev L_c1j (fr : Bool) (s : FSt) (i : Nat) (n : Nd) (j : Nat) : ASt := ⟨envOf [(1, pFs true fr s), (3, .mp 0), (43, fNds fr s.nodes), (44, .v (.int .i64 s.nodes.length)), (45, .v (.int .i64 i)), (72, fEnts fr n.entries), (73, .v (.int .i64 n.entries.length)), (74, .v (.int .i64 j))], heapOf [(0, .row true MAPE (encM (lkM (ksJ s i n j))))], 1⟩
set_option maxHeartbeats 4000000 in
theorem fsCheck_spec (fr : Bool) (s : FSt) (nb : Nat) (hl : s.nodes.length ≤ 140737488355328) (hb : ∀ n ∈ s.nodes, n.entries.length ≤ 140737488355328 ∧ n.file.blocks.length ≤ 140737488355328) :
    ASound Tryz.prog 32 [aFs fr s] nb (.ret (.v (.int .i64 (chkFs s))) []) := by
  refine ok_CKc.sound (by simp) ⟨al_aFs s, trivial⟩ ?_
  simp only [ac_CKc, aFs, fNds, TT, ↓reduceIte, Nat.reduceEqDiff, Nat.reduceAdd, Nat.reduceMul, reduceCtorEq, Nat.reduceLeDiff]
  refine ⟨⟨envOf [(1, pFs true fr s)], heapOf [], 200000⟩, Weak.freezeC 0 rfl (l := [(1, pFs true fr s)]) (h := []) ?_ ?_, ?_⟩
  · simp [WT, pFs, fNds, okF, fzV, fzOne]
  · trivial
  by_cases c1 : s.next ≤ 1
  · have e : chkFs s = 9 := if_pos (.inl c1)
    simp only [ac_CK1, pFs, fNds, e, c1, decide_true, TT, ↓reduceIte, Nat.reduceEqDiff, Nat.reduceAdd, Nat.reduceMul, reduceCtorEq, Nat.reduceLeDiff]
    exact Ends.data (.inr rfl) (by simp [ET]) trivial
  by_cases c2 : 2147483647 < s.next
  · have e : chkFs s = 9 := if_pos (.inr (.inl c2))
    simp only [ac_CK1, pFs, fNds, e, c1, c2, decide_true, decide_false, TT, ↓reduceIte, Nat.reduceEqDiff, Nat.reduceAdd, Nat.reduceMul, reduceCtorEq, Nat.reduceLeDiff]
    exact Ends.data (.inr rfl) (by simp [ET]) trivial
  by_cases c3 : s.nodes.length = 0
  · have e : chkFs s = 9 := if_pos (.inr (.inr (.inl c3)))
    have g : ((s.nodes.length : Int) = 0) = True := eq_true (by omega)
    simp only [ac_CK1, pFs, fNds, e, c1, c2, g, decide_true, decide_false, TT, ↓reduceIte, Nat.reduceEqDiff, Nat.reduceAdd, Nat.reduceMul, reduceCtorEq, Nat.reduceLeDiff]
    exact Ends.data (.inr rfl) (by simp [ET]) trivial
  have g3 : ((s.nodes.length : Int) = 0) = False := eq_false (by omega)
  by_cases c4 : 128 < s.nodes.length
  · have e : chkFs s = 9 := if_pos (.inr (.inr (.inr (.inl c4))))
    have g : (128 < (s.nodes.length : Int)) = True := eq_true (by omega)
    simp only [ac_CK1, pFs, fNds, e, c1, c2, g3, g, decide_true, decide_false, TT, ↓reduceIte, Nat.reduceEqDiff, Nat.reduceAdd, Nat.reduceMul, reduceCtorEq, Nat.reduceLeDiff]
    exact Ends.data (.inr rfl) (by simp [ET]) trivial
  have g4 : (128 < (s.nodes.length : Int)) = False := eq_false (by omega)
  obtain ⟨n0, hx0, q1, q0⟩ := lt_at (show 0 < s.nodes.length by omega)
  obtain ⟨z0, _⟩ := get_Nds (fr := fr) hx0
  have q1' : ((0 : Int) < (s.nodes.length : Int)) = True := eq_true (by omega)
  have q0' : ((0 : Int) ≤ 0) = True := eq_true (by omega)
  have z0' : (eNds fr s.nodes)[0]? = some (.v (.int .i64 n0.ino)) := by simpa using z0
  by_cases c5 : ¬ n0.ino = 1
  · have e : chkFs s = 9 := if_pos (.inr (.inr (.inr (.inr (by rw [inoA_at hx0]; exact c5)))))
    simp only [ac_CK1, pFs, fNds, e, c1, c2, g3, g4, q1', q0', z0', z0, c5, Int.toNat_zero, Nat.zero_mul, decide_true, decide_false, Bool.not_false, TT, ↓reduceIte, Nat.reduceEqDiff, Nat.reduceAdd, Nat.reduceMul, reduceCtorEq, Nat.reduceLeDiff]
    exact Ends.data (.inr rfl) (by simp [ET]) trivial
  replace c5 : n0.ino = 1 := Decidable.not_not.1 c5
  have e : chkFs s = if chk1 s none s.nodes = true ∧ chk2 s (lkM (inosN s.nodes)) s.nodes = true ∧ chk3 s = true then 0 else 9 := by
    rw [chkFs, if_neg]
    rintro (h | h | h | h | h)
    · exact c1 h
    · exact c2 h
    · exact c3 h
    · exact c4 h
    · exact h (by rw [inoA_at hx0]; exact c5)
  rw [e]
  simp only [ac_CK1, pFs, fNds, c1, c2, g3, g4, q1', q0', z0', z0, c5, Int.toNat_zero, Nat.zero_mul, decide_true, decide_false, Bool.not_true, TT, ↓reduceIte, Nat.reduceEqDiff, Nat.reduceAdd, Nat.reduceMul, reduceCtorEq, Nat.reduceLeDiff]
  refine AWc.family (L_c1 fr s) (fun i => i ≤ s.nodes.length ∧ chk1 s (prevN s.nodes i) (s.nodes.drop i) = chk1 s none s.nodes) (fun i => s.nodes.length - i) 0 ⟨Nat.zero_le _, rfl⟩ ?_ ?_
  · refine Weak.calc [(3000000, 0)] (by decide) ?_ ?_ <;> simp [WT, inosN, lkM, encM, pFs, fNds, al_Nds, ren_Nds]
  · rintro i ⟨hi, he⟩
    by_cases hlt : i < s.nodes.length
    · obtain ⟨n, hx, e1, e0⟩ := lt_at hlt
      obtain ⟨a0, a1, a2, a3, a4, a5⟩ := get_Nds (fr := fr) hx
      have hmem := List.mem_of_getElem? hx
      rw [chk1_drop hx] at he
      have w1 : ¬ i = 0 → IntKind.i64.wrap ((i : Int) - 1) = ((i - 1 : Nat) : Int) := fun h => by rw [wrap64 (by omega)]; omega
      by_cases d1 : s.next ≤ n.ino
      · have hf : chk1 s none s.nodes = false := by rw [← he, decide_eq_false (show ¬ n.ino < s.next by omega), Bool.false_and]
        simp only [L_c1, pFs, fNds, e1, e0, a0, a1, a2, a3, a4, a5, d1, decide_true, Int.toNat_natCast, TT, ↓reduceIte, Nat.reduceEqDiff, Nat.reduceAdd, Nat.reduceMul, reduceCtorEq, Nat.reduceLeDiff]
        exact ⟨by rfl, Ends.data (.inr rfl) (by simp [ET, hf]) trivial⟩
      rw [decide_eq_true (show n.ino < s.next by omega), Bool.true_and] at he
      rcases Nat.eq_zero_or_pos i with h0 | h0
      · have g : ((0 : Int) < (i : Int)) = False := eq_false (by omega)
        have hpr : ltO (prevN s.nodes i) n.ino = true := by subst h0; rfl
        rw [hpr, Bool.true_and] at he
        simp only [L_c1, pFs, fNds, e1, e0, a0, a1, a2, a3, a4, a5, d1, g, decide_false, Int.toNat_natCast, TT, ↓reduceIte, Nat.reduceEqDiff, Nat.reduceAdd, Nat.reduceMul, reduceCtorEq, Nat.reduceLeDiff]
        refine ⟨by rfl, ?_⟩
        refine AWc.family (L_c1j fr s i n) (fun j => j ≤ n.entries.length ∧ ∀ e ∈ n.entries.take j, hasN s.nodes e.ino) (fun j => n.entries.length - j) 0 ⟨Nat.zero_le _, by simp⟩ ?_ ?_
        · refine Weak.calc [(0, 0)] (by decide) ?_ ?_ <;> simp [WT, ksJ, pFs, fNds, al_Nds, ren_Nds, fEnts, al_Ents, ren_Ents, al_encM, ren_encM]
        · rintro j ⟨hj, hall⟩
          by_cases hjl : j < n.entries.length
          · obtain ⟨x, hy, f1, f0⟩ := lt_at hjl
            obtain ⟨b0, b1⟩ := get_Ents hy
            have hbs := fun nb => bsearch_spec 84 fr s.nodes x.ino nb hl (fun n nb => cmpN1_spec fr n x.ino nb)
            simp only [fNds] at hbs
            have hbd := getM_bd x.ino (ksJ s i n j)
            have hkl := ksJ_len (s := s) (n := n) (i := i) (j := j) (by omega) (fun n hn => (hb n hn).1) (by have := (hb n hmem).1; omega)
            have hput := mput_encM x.ino (lkM (ksJ s i n j))
            rw [← lkM_s, ← ksJ_s hy] at hput
            have hjn := (hb n hmem).1
            rcases mfind_encM x.ino (lkM (ksJ s i n j)) with ⟨hM, hg⟩ | hM
            · have w2 : IntKind.i64.wrap (0 + 1) = getM x.ino (lkM (ksJ s i n j)) + 1 := by rw [hg]; rfl
              simp only [L_c1j, pFs, fNds, fEnts, f1, f0, b0, b1, hM, w2, hput, Int.toNat_natCast, TT, ↓reduceIte, Nat.reduceEqDiff, Nat.reduceAdd, Nat.reduceMul, reduceCtorEq, Nat.reduceLeDiff]
              refine ⟨_, hbs _, ?_⟩
              by_cases hh : hasN s.nodes x.ino
              · simp only [decide_eq_true hh, Bool.not_true, TT, ↓reduceIte, Nat.reduceEqDiff, Nat.reduceAdd, Nat.reduceMul, reduceCtorEq, Nat.reduceLeDiff]
                refine famC_next (j + 1) (by omega) ⟨by omega, fun e he2 => ?_⟩ ?_
                · rw [take_snoc hy] at he2
                  rcases List.mem_append.1 he2 with h3 | h3
                  · exact hall e h3
                  · have : e = x := by simpa using h3
                    rw [this]; exact hh
                · refine Weak.calc [(0, 0)] (by decide) ?_ ?_ <;> simp [WT, pFs, fNds, al_Nds, ren_Nds, fEnts, al_Ents, ren_Ents, al_encM, ren_encM, wrap64 (x := (j : Int) + 1) (by omega)]
              · have hf : chk1 s none s.nodes = false := by
                  rw [← he, decide_eq_false (fun h9 => hh (h9 x (List.mem_of_getElem? hy)))]; simp
                simp only [decide_eq_false hh, Bool.not_false, TT, ↓reduceIte, Nat.reduceEqDiff, Nat.reduceAdd, Nat.reduceMul, reduceCtorEq, Nat.reduceLeDiff]
                exact Ends.data (.inr rfl) (by simp [ET, hf]) trivial
            · have w2 : IntKind.i64.wrap (getM x.ino (lkM (ksJ s i n j)) + 1) = getM x.ino (lkM (ksJ s i n j)) + 1 := wrap64 (by omega)
              simp only [L_c1j, pFs, fNds, fEnts, f1, f0, b0, b1, hM, w2, hput, Int.toNat_natCast, TT, ↓reduceIte, Nat.reduceEqDiff, Nat.reduceAdd, Nat.reduceMul, reduceCtorEq, Nat.reduceLeDiff]
              refine ⟨_, hbs _, ?_⟩
              by_cases hh : hasN s.nodes x.ino
              · simp only [decide_eq_true hh, Bool.not_true, TT, ↓reduceIte, Nat.reduceEqDiff, Nat.reduceAdd, Nat.reduceMul, reduceCtorEq, Nat.reduceLeDiff]
                refine famC_next (j + 1) (by omega) ⟨by omega, fun e he2 => ?_⟩ ?_
                · rw [take_snoc hy] at he2
                  rcases List.mem_append.1 he2 with h3 | h3
                  · exact hall e h3
                  · have : e = x := by simpa using h3
                    rw [this]; exact hh
                · refine Weak.calc [(0, 0)] (by decide) ?_ ?_ <;> simp [WT, pFs, fNds, al_Nds, ren_Nds, fEnts, al_Ents, ren_Ents, al_encM, ren_encM, wrap64 (x := (j : Int) + 1) (by omega)]
              · have hf : chk1 s none s.nodes = false := by
                  rw [← he, decide_eq_false (fun h9 => hh (h9 x (List.mem_of_getElem? hy)))]; simp
                simp only [decide_eq_false hh, Bool.not_false, TT, ↓reduceIte, Nat.reduceEqDiff, Nat.reduceAdd, Nat.reduceMul, reduceCtorEq, Nat.reduceLeDiff]
                exact Ends.data (.inr rfl) (by simp [ET, hf]) trivial
          · obtain rfl : j = n.entries.length := by omega
            have f1 : ¬ ((n.entries.length : Int) < (n.entries.length : Int)) := by omega
            rw [List.take_length] at hall
            rw [decide_eq_true hall, Bool.true_and] at he
            simp only [L_c1j, pFs, fNds, fEnts, f1, TT, ↓reduceIte, Nat.reduceEqDiff, Nat.reduceAdd, Nat.reduceMul, reduceCtorEq, Nat.reduceLeDiff]
            refine famC_next (i + 1) (by omega) ⟨by omega, he⟩ ?_
            refine Weak.calc [(0, 0)] (by decide) ?_ ?_ <;> simp [WT, inosN_s hx, ksJ, pFs, fNds, al_Nds, ren_Nds, al_encM, ren_encM, wrap64 (x := (i : Int) + 1) (by omega)]
      · have g : ((0 : Int) < (i : Int)) = True := eq_true (by omega)
        obtain ⟨p, hp, p1, p0⟩ := lt_at (show i - 1 < s.nodes.length by omega)
        obtain ⟨y0, _⟩ := get_Nds (fr := fr) hp
        have hpr : prevN s.nodes i = some p.ino := by rw [prevN, if_neg (by omega), hp]; rfl
        rw [hpr, ltO] at he
        have w1' := w1 (by omega)
        by_cases d2 : n.ino ≤ p.ino
        · have hf : chk1 s none s.nodes = false := by rw [← he, decide_eq_false (show ¬ p.ino < n.ino by omega), Bool.false_and]
          simp only [L_c1, pFs, fNds, e1, e0, a0, a1, a2, a3, a4, a5, d1, d2, g, w1', p1, p0, y0, decide_true, decide_false, Int.toNat_natCast, TT, ↓reduceIte, Nat.reduceEqDiff, Nat.reduceAdd, Nat.reduceMul, reduceCtorEq, Nat.reduceLeDiff]
          exact ⟨by rfl, Ends.data (.inr rfl) (by simp [ET, hf]) trivial⟩
        rw [decide_eq_true (show p.ino < n.ino by omega), Bool.true_and] at he
        simp only [L_c1, pFs, fNds, e1, e0, a0, a1, a2, a3, a4, a5, d1, d2, g, w1', p1, p0, y0, decide_true, decide_false, Int.toNat_natCast, TT, ↓reduceIte, Nat.reduceEqDiff, Nat.reduceAdd, Nat.reduceMul, reduceCtorEq, Nat.reduceLeDiff]
        refine ⟨by rfl, ?_⟩
        refine AWc.family (L_c1j fr s i n) (fun j => j ≤ n.entries.length ∧ ∀ e ∈ n.entries.take j, hasN s.nodes e.ino) (fun j => n.entries.length - j) 0 ⟨Nat.zero_le _, by simp⟩ ?_ ?_
        · refine Weak.calc [(0, 0)] (by decide) ?_ ?_ <;> simp [WT, ksJ, pFs, fNds, al_Nds, ren_Nds, fEnts, al_Ents, ren_Ents, al_encM, ren_encM]
        · rintro j ⟨hj, hall⟩
          by_cases hjl : j < n.entries.length
          · obtain ⟨x, hy, f1, f0⟩ := lt_at hjl
            obtain ⟨b0, b1⟩ := get_Ents hy
            have hbs := fun nb => bsearch_spec 84 fr s.nodes x.ino nb hl (fun n nb => cmpN1_spec fr n x.ino nb)
            simp only [fNds] at hbs
            have hbd := getM_bd x.ino (ksJ s i n j)
            have hkl := ksJ_len (s := s) (n := n) (i := i) (j := j) (by omega) (fun n hn => (hb n hn).1) (by have := (hb n hmem).1; omega)
            have hput := mput_encM x.ino (lkM (ksJ s i n j))
            rw [← lkM_s, ← ksJ_s hy] at hput
            have hjn := (hb n hmem).1
            rcases mfind_encM x.ino (lkM (ksJ s i n j)) with ⟨hM, hg⟩ | hM
            · have w2 : IntKind.i64.wrap (0 + 1) = getM x.ino (lkM (ksJ s i n j)) + 1 := by rw [hg]; rfl
              simp only [L_c1j, pFs, fNds, fEnts, f1, f0, b0, b1, hM, w2, hput, Int.toNat_natCast, TT, ↓reduceIte, Nat.reduceEqDiff, Nat.reduceAdd, Nat.reduceMul, reduceCtorEq, Nat.reduceLeDiff]
              refine ⟨_, hbs _, ?_⟩
              by_cases hh : hasN s.nodes x.ino
              · simp only [decide_eq_true hh, Bool.not_true, TT, ↓reduceIte, Nat.reduceEqDiff, Nat.reduceAdd, Nat.reduceMul, reduceCtorEq, Nat.reduceLeDiff]
                refine famC_next (j + 1) (by omega) ⟨by omega, fun e he2 => ?_⟩ ?_
                · rw [take_snoc hy] at he2
                  rcases List.mem_append.1 he2 with h3 | h3
                  · exact hall e h3
                  · have : e = x := by simpa using h3
                    rw [this]; exact hh
                · refine Weak.calc [(0, 0)] (by decide) ?_ ?_ <;> simp [WT, pFs, fNds, al_Nds, ren_Nds, fEnts, al_Ents, ren_Ents, al_encM, ren_encM, wrap64 (x := (j : Int) + 1) (by omega)]
              · have hf : chk1 s none s.nodes = false := by
                  rw [← he, decide_eq_false (fun h9 => hh (h9 x (List.mem_of_getElem? hy)))]; simp
                simp only [decide_eq_false hh, Bool.not_false, TT, ↓reduceIte, Nat.reduceEqDiff, Nat.reduceAdd, Nat.reduceMul, reduceCtorEq, Nat.reduceLeDiff]
                exact Ends.data (.inr rfl) (by simp [ET, hf]) trivial
            · have w2 : IntKind.i64.wrap (getM x.ino (lkM (ksJ s i n j)) + 1) = getM x.ino (lkM (ksJ s i n j)) + 1 := wrap64 (by omega)
              simp only [L_c1j, pFs, fNds, fEnts, f1, f0, b0, b1, hM, w2, hput, Int.toNat_natCast, TT, ↓reduceIte, Nat.reduceEqDiff, Nat.reduceAdd, Nat.reduceMul, reduceCtorEq, Nat.reduceLeDiff]
              refine ⟨_, hbs _, ?_⟩
              by_cases hh : hasN s.nodes x.ino
              · simp only [decide_eq_true hh, Bool.not_true, TT, ↓reduceIte, Nat.reduceEqDiff, Nat.reduceAdd, Nat.reduceMul, reduceCtorEq, Nat.reduceLeDiff]
                refine famC_next (j + 1) (by omega) ⟨by omega, fun e he2 => ?_⟩ ?_
                · rw [take_snoc hy] at he2
                  rcases List.mem_append.1 he2 with h3 | h3
                  · exact hall e h3
                  · have : e = x := by simpa using h3
                    rw [this]; exact hh
                · refine Weak.calc [(0, 0)] (by decide) ?_ ?_ <;> simp [WT, pFs, fNds, al_Nds, ren_Nds, fEnts, al_Ents, ren_Ents, al_encM, ren_encM, wrap64 (x := (j : Int) + 1) (by omega)]
              · have hf : chk1 s none s.nodes = false := by
                  rw [← he, decide_eq_false (fun h9 => hh (h9 x (List.mem_of_getElem? hy)))]; simp
                simp only [decide_eq_false hh, Bool.not_false, TT, ↓reduceIte, Nat.reduceEqDiff, Nat.reduceAdd, Nat.reduceMul, reduceCtorEq, Nat.reduceLeDiff]
                exact Ends.data (.inr rfl) (by simp [ET, hf]) trivial
          · obtain rfl : j = n.entries.length := by omega
            have f1 : ¬ ((n.entries.length : Int) < (n.entries.length : Int)) := by omega
            rw [List.take_length] at hall
            rw [decide_eq_true hall, Bool.true_and] at he
            simp only [L_c1j, pFs, fNds, fEnts, f1, TT, ↓reduceIte, Nat.reduceEqDiff, Nat.reduceAdd, Nat.reduceMul, reduceCtorEq, Nat.reduceLeDiff]
            refine famC_next (i + 1) (by omega) ⟨by omega, he⟩ ?_
            refine Weak.calc [(0, 0)] (by decide) ?_ ?_ <;> simp [WT, inosN_s hx, ksJ, pFs, fNds, al_Nds, ren_Nds, al_encM, ren_encM, wrap64 (x := (i : Int) + 1) (by omega)]
    · obtain rfl : i = s.nodes.length := by omega
      have e1 : ¬ ((s.nodes.length : Int) < (s.nodes.length : Int)) := by omega
      have h9 : chk1 s none s.nodes = true := by rw [← he, List.drop_length]; rfl
      obtain ⟨hall, _, hinc⟩ := chk1_all h9
      have hok : okE s := fun n hn => ⟨(hb n hn).1, (hall n hn).2⟩
      have h1 : hasN s.nodes 1 := by have := hasN_of hinc hx0; rwa [c5] at this
      simp only [L_c1, pFs, fNds, e1, List.take_length, TT, ↓reduceIte, Nat.reduceEqDiff, Nat.reduceAdd, Nat.reduceMul, reduceCtorEq, Nat.reduceLeDiff]
      refine ⟨⟨envOf [(1, pFs true fr s), (3, .mp 0)], heapOf [(0, .row true MAPE (encM (lkM (inosN s.nodes))))], 1⟩, ?_, ?_⟩
      · refine Weak.calc [(0, 0)] (by decide) ?_ ?_ <;> simp [WT, pFs, fNds, al_Nds, ren_Nds, al_encM, ren_encM]
      · have h := ck2_spec fr s (lkM (inosN s.nodes)) nb hl (fun n hn => (hb n hn).2) hok h1
        have e : (if chk1 s none s.nodes = true ∧ chk2 s (lkM (inosN s.nodes)) s.nodes = true ∧ chk3 s = true then (0 : Int) else 9) = if chk2 s (lkM (inosN s.nodes)) s.nodes = true ∧ chk3 s = true then 0 else 9 := by simp [h9]
        rw [e]
        exact h
end Go.Proofs.YtonglhkiobibgaaGreatDoor
namespace Go.Proofs.YtonglhkiobibgaaGreatDoor
open Go.RowKit
set_option maxRecDepth 100000
theorem bless_irr : ∀ l : List UInt8, Op.bytesLess l l = false
  | [] => rfl
  | a :: l => by
    rw [Op.bytesLess, bless_irr l]
    simp
def cmpS (a b : ByteArray) : Int := if lessS a b = true then -1 else if a = b then 0 else 1
theorem cmpS_neg {a b : ByteArray} : cmpS a b < 0 ↔ lessS a b = true := by unfold cmpS; split <;> (try split) <;> simp_all
theorem cmpS_zero {a b : ByteArray} : cmpS a b = 0 ↔ a = b := by
  unfold cmpS
  by_cases h : a = b
  · subst h
    have : lessS a a = false := bless_irr _
    simp [this]
  · split <;> simp_all
theorem nanS_spec (a : ByteArray) (nb : Nat) : ASound Tryz.prog 282 [.v (.string a)] nb (.ret (.v (.bool false)) []) := by
  refine ok_282.sound (by simp) ⟨trivial, trivial⟩ ?_
  simp only [ac_282, strOp, decide_true, Bool.not_true, TT, ↓reduceIte, Nat.reduceEqDiff, Nat.reduceAdd, Nat.reduceMul, reduceCtorEq, Nat.reduceLeDiff]
  exact Ends.data (.inr rfl) (by simp [ET]) trivial
theorem cmpS_spec (a b : ByteArray) (nb : Nat) : ASound Tryz.prog 255 [.v (.string a), .v (.string b)] nb (.ret (.v (.int .i64 (cmpS a b))) []) := by
  refine ok_255.sound (by simp) ⟨trivial, trivial, trivial⟩ ?_
  simp only [ac_255, TT, ↓reduceIte, Nat.reduceEqDiff, Nat.reduceAdd, Nat.reduceMul, reduceCtorEq, Nat.reduceLeDiff]
  refine ⟨_, nanS_spec a _, ?_⟩
  simp only [TT, ↓reduceIte, Nat.reduceEqDiff, Nat.reduceAdd, Nat.reduceMul, reduceCtorEq, Nat.reduceLeDiff]
  refine ⟨_, nanS_spec b _, ?_⟩
  cases h1 : Op.bytesLess a.toList b.toList
  · by_cases h2 : a = b
    · simp only [strOp, h1, h2, decide_true, Bool.or_true, Bool.not_true, TT, ↓reduceIte, Nat.reduceEqDiff, Nat.reduceAdd, Nat.reduceMul, reduceCtorEq, Nat.reduceLeDiff]
      subst h2
      simp only [h1, TT, ↓reduceIte, Nat.reduceEqDiff, Nat.reduceAdd, Nat.reduceMul, reduceCtorEq, Nat.reduceLeDiff]
      exact Ends.data (.inr rfl) (by simp [ET, cmpS, lessS, h1]) trivial
    · simp only [strOp, h1, h2, decide_false, Bool.or_false, Bool.not_false, TT, ↓reduceIte, Nat.reduceEqDiff, Nat.reduceAdd, Nat.reduceMul, reduceCtorEq, Nat.reduceLeDiff]
      exact Ends.data (.inr rfl) (by simp [ET, cmpS, lessS, h1, h2]) trivial
  · simp only [strOp, h1, TT, ↓reduceIte, Nat.reduceEqDiff, Nat.reduceAdd, Nat.reduceMul, reduceCtorEq, Nat.reduceLeDiff]
    exact Ends.data (.inr rfl) (by simp [ET, cmpS, lessS, h1]) trivial
theorem cmpE_spec (e : Ent) (t : ByteArray) (nb : Nat) : ASound Tryz.prog 254 [aEnt e, .v (.string t)] nb (.ret (.v (.int .i64 (cmpS e.name t))) []) := by
  refine ok_254.sound (by simp) ⟨⟨trivial, trivial, trivial⟩, trivial, trivial⟩ ?_
  simp only [ac_254, aEnt, TT, ↓reduceIte, Nat.reduceEqDiff, Nat.reduceAdd, Nat.reduceMul, reduceCtorEq, Nat.reduceLeDiff]
  refine ⟨_, cmpS_spec _ _ _, ?_⟩
  simp only [TT, ↓reduceIte, Nat.reduceEqDiff, Nat.reduceAdd, Nat.reduceMul, reduceCtorEq, Nat.reduceLeDiff]
  exact Ends.data (.inr rfl) (by simp [ET]) trivial
/-- a search by halves -/
def bsP (p : Nat → Bool) : Nat → Nat → Nat → Nat
  | 0, i, _ => i
  | k + 1, i, j => if i < j then (if p ((i + j) / 2) = true then bsP p k ((i + j) / 2 + 1) j else bsP p k i ((i + j) / 2)) else i
theorem bsP_stop {p : Nat → Bool} {k i j : Nat} (h : ¬ i < j) : bsP p k i j = i := by
  cases k with
  | zero => rfl
  | succ k => rw [bsP, if_neg h]
def namA (l : List Ent) (h : Nat) : ByteArray := match l[h]? with | some e => e.name | none => ByteArray.mk #[]
theorem namA_at {l : List Ent} {h : Nat} {e : Ent} (x : l[h]? = some e) : namA l h = e.name := by rw [namA, x]
def plcE (l : List Ent) (t : ByteArray) : Nat := bsP (fun h => lessS (namA l h) t) l.length 0 l.length
abbrev hasE (l : List Ent) (t : ByteArray) : Prop := plcE l t < l.length ∧ namA l (plcE l t) = t
abbrev L_be (f : Nat) (fr : Bool) (l : List Ent) (t : ByteArray) (q : Bs) : ASt := ⟨envOf [(0, fEnts fr l), (1, .v (.string t)), (2, .fn f []), (8, .v (.int .i64 l.length)), (9, .v (.int .i64 q.i)), (10, .v (.int .i64 q.j))], heapOf [], 1⟩
set_option maxHeartbeats 1000000 in
theorem bsearchE_spec (fr : Bool) (l : List Ent) (t : ByteArray) (nb : Nat) (hl : l.length ≤ 140737488355328) :
    ASound Tryz.prog 253 [fEnts fr l, .v (.string t), .fn 254 []] nb (.ret (.tup [.v (.int .i64 (plcE l t)), .v (.bool (decide (hasE l t)))]) []) := by
  refine ok_253.sound (by simp) ⟨al_fEnts l, trivial, trivial, trivial⟩ ?_
  simp only [ac_253, fEnts, TT, ↓reduceIte, Nat.reduceEqDiff, Nat.reduceAdd, Nat.reduceMul, reduceCtorEq, Nat.reduceLeDiff]
  refine AWc.family (L_be 254 fr l t) (fun q => (q.i ≤ q.j ∧ q.j ≤ l.length ∧ q.j - q.i ≤ q.k) ∧ bsP (fun h => lessS (namA l h) t) q.k q.i q.j = plcE l t) (fun q => q.j - q.i) ⟨l.length, 0, l.length⟩ ⟨⟨Nat.zero_le _, Nat.le_refl _, Nat.le_refl _⟩, rfl⟩ ?_ ?_
  · refine Weak.calc [] (by decide) ?_ ?_ <;> simp [WT, al_Ents, ren_Ents, fEnts]
  · rintro ⟨k, i, j⟩ ⟨⟨hi, hj, hk⟩, he⟩
    simp only at hi hj hk he
    by_cases hlt : i < j
    · obtain ⟨k, rfl⟩ : ∃ k', k = k' + 1 := ⟨k - 1, by omega⟩
      have g1 : ((i : Int) < (j : Int)) = True := eq_true (by omega)
      have w1 : IntKind.i64.wrap ((i : Int) + (j : Int)) = ((i + j : Nat) : Int) := by rw [wrap64 (by omega)]; omega
      have w2 := wu64 (m := i + j) (by omega)
      have w3 : IntKind.i64.wrap (((i + j) / 2 : Nat) : Int) = (((i + j) / 2 : Nat) : Int) := wrap64 (by omega)
      rw [bsP, if_pos hlt] at he
      generalize hm : (i + j) / 2 = m at he w3
      obtain ⟨n, hx, e1, e0⟩ := lt_at (show m < l.length by omega)
      obtain ⟨a0, a1⟩ := get_Ents hx
      rw [namA_at hx] at he
      have ho := cmpE_spec n t
      simp only [L_be, fEnts, g1, w1, w2, shr1, hm, w3, e1, e0, a0, a1, Int.toNat_natCast, TT, ↓reduceIte, Nat.reduceEqDiff, Nat.reduceAdd, Nat.reduceMul, reduceCtorEq, Nat.reduceLeDiff]
      refine ⟨_, _, _, rfl, ho _, ?_⟩
      cases h : lessS n.name t
      · rw [if_neg (by rw [h]; decide)] at he
        have c1 : (cmpS n.name t < 0) = False := eq_false fun h9 => by rw [cmpS_neg, h] at h9; cases h9
        simp only [c1, decide_false, TT, ↓reduceIte, Nat.reduceEqDiff, Nat.reduceAdd, Nat.reduceMul, reduceCtorEq, Nat.reduceLeDiff]
        refine famC_next ⟨k, i, m⟩ (by show m - i < j - i; omega) ⟨⟨by show i ≤ m; omega, by show m ≤ l.length; omega, by show m - i ≤ k; omega⟩, he⟩ ?_
        refine Weak.calc [] (by decide) ?_ ?_ <;> simp [WT, al_Ents, ren_Ents, fEnts]
      · rw [if_pos h] at he
        have c1 : (cmpS n.name t < 0) = True := eq_true (cmpS_neg.2 h)
        simp only [c1, decide_true, TT, ↓reduceIte, Nat.reduceEqDiff, Nat.reduceAdd, Nat.reduceMul, reduceCtorEq, Nat.reduceLeDiff]
        refine famC_next ⟨k, m + 1, j⟩ (by show j - (m + 1) < j - i; omega) ⟨⟨by show m + 1 ≤ j; omega, hj, by show j - (m + 1) ≤ k; omega⟩, he⟩ ?_
        refine Weak.calc [] (by decide) ?_ ?_ <;> simp [WT, al_Ents, ren_Ents, fEnts, wrap64 (x := (m : Int) + 1) (by omega)]
    · obtain rfl : i = j := by omega
      rw [bsP_stop hlt] at he
      subst he
      have g1 : ((plcE l t : Int) < (plcE l t : Int)) = False := eq_false (by omega)
      by_cases h9 : plcE l t < l.length
      · have g2 : ((plcE l t : Int) < (l.length : Int)) = True := eq_true (by omega)
        obtain ⟨n, hx, e1, e0⟩ := lt_at h9
        obtain ⟨a0, a1⟩ := get_Ents hx
        have ho := cmpE_spec n t
        have hd : decide (hasE l t) = decide (cmpS n.name t = 0) := by
          by_cases h : n.name = t
          · rw [decide_eq_true (cmpS_zero.2 h), decide_eq_true ⟨h9, by rw [namA_at hx, h]⟩]
          · rw [decide_eq_false fun h8 => h (cmpS_zero.1 h8), decide_eq_false fun h8 => h (by rw [← namA_at hx]; exact h8.2)]
        rw [hd]
        simp only [L_be, fEnts, g1, g2, decide_true, e0, a0, a1, Int.toNat_natCast, TT, ↓reduceIte, Nat.reduceEqDiff, Nat.reduceAdd, Nat.reduceMul, reduceCtorEq, Nat.reduceLeDiff]
        refine ⟨_, _, _, rfl, ho _, ?_⟩
        simp only [TT, ↓reduceIte, Nat.reduceEqDiff, Nat.reduceAdd, Nat.reduceMul, reduceCtorEq, Nat.reduceLeDiff]
        exact Ends.data (.inr rfl) (by simp [ET]) ⟨trivial, trivial, trivial⟩
      · have g2 : ((plcE l t : Int) < (l.length : Int)) = False := eq_false (by omega)
        have hd : decide (hasE l t) = false := decide_eq_false fun h => h9 h.1
        rw [hd]
        simp only [L_be, fEnts, g1, g2, decide_false, TT, ↓reduceIte, Nat.reduceEqDiff, Nat.reduceAdd, Nat.reduceMul, reduceCtorEq, Nat.reduceLeDiff]
        exact Ends.data (.inr rfl) (by simp [ET]) ⟨trivial, trivial, trivial⟩
theorem search_spec (fr : Bool) (l : List Ent) (t : ByteArray) (nb : Nat) (hl : l.length ≤ 140737488355328) :
    ASound Tryz.prog 221 [fEnts fr l, .v (.string t)] nb (.ret (.tup [.v (.int .i64 (plcE l t)), .v (.bool (decide (hasE l t)))]) []) := by
  refine ok_221.sound (by simp) ⟨al_fEnts l, trivial, trivial⟩ ?_
  have h := fun nb => bsearchE_spec fr l t nb hl
  simp only [fEnts] at h
  simp only [ac_221, fEnts, TT, ↓reduceIte, Nat.reduceEqDiff, Nat.reduceAdd, Nat.reduceMul, reduceCtorEq, Nat.reduceLeDiff]
  refine ⟨_, h _, ?_⟩
  simp only [TT, ↓reduceIte, Nat.reduceEqDiff, Nat.reduceAdd, Nat.reduceMul, reduceCtorEq, Nat.reduceLeDiff]
  exact Ends.data (.inr rfl) (by simp [ET]) ⟨trivial, trivial, trivial⟩
def inoE (l : List Ent) (h : Nat) : Int := match l[h]? with | some e => e.ino | none => 0
/-- a name's number, whether it is there, and what is amiss -/
def findE (l : List Ent) (t : ByteArray) : Int × Bool × Int := if chkD l = 0 then (if hasE l t then (inoE l (plcE l t), true, 0) else (0, false, 0)) else (0, false, chkD l)
theorem dfind_spec (fr : Bool) (l : List Ent) (t : ByteArray) (nb : Nat) (hl : l.length ≤ 140737488355328) :
    ASound Tryz.prog 172 [fEnts fr l, .v (.string t)] nb (.ret (.tup [.v (.int .i64 (findE l t).1), .v (.bool (findE l t).2.1), .v (.int .i64 (findE l t).2.2)]) []) := by
  refine ok_172.sound (by simp) ⟨al_fEnts l, trivial, trivial⟩ ?_
  have h1 := fun nb => dchk_spec fr l nb
  have h2 := fun nb => search_spec fr l t nb hl
  simp only [fEnts] at h1 h2
  simp only [ac_172, fEnts, TT, ↓reduceIte, Nat.reduceEqDiff, Nat.reduceAdd, Nat.reduceMul, reduceCtorEq, Nat.reduceLeDiff]
  refine ⟨_, h1 _, ?_⟩
  by_cases c1 : ¬ chkD l = 0
  · have e : findE l t = (0, false, chkD l) := if_neg c1
    simp only [c1, e, decide_false, Bool.not_false, TT, ↓reduceIte, Nat.reduceEqDiff, Nat.reduceAdd, Nat.reduceMul, reduceCtorEq, Nat.reduceLeDiff]
    exact Ends.data (.inr rfl) (by simp [ET]) ⟨trivial, trivial, trivial, trivial⟩
  replace c1 : chkD l = 0 := Decidable.not_not.1 c1
  simp only [c1, decide_true, Bool.not_true, TT, ↓reduceIte, Nat.reduceEqDiff, Nat.reduceAdd, Nat.reduceMul, reduceCtorEq, Nat.reduceLeDiff]
  refine ⟨_, h2 _, ?_⟩
  by_cases c2 : hasE l t
  · obtain ⟨n, hx, e1, e0⟩ := lt_at c2.1
    obtain ⟨a0, a1⟩ := get_Ents hx
    have e : findE l t = (n.ino, true, 0) := by rw [findE, if_pos c1, if_pos c2, inoE, hx]
    simp only [e, decide_eq_true c2, Bool.not_true, e1, e0, a0, a1, Int.toNat_natCast, TT, ↓reduceIte, Nat.reduceEqDiff, Nat.reduceAdd, Nat.reduceMul, reduceCtorEq, Nat.reduceLeDiff]
    exact Ends.data (.inr rfl) (by simp [ET]) ⟨trivial, trivial, trivial, trivial⟩
  · have e : findE l t = (0, false, 0) := by rw [findE, if_pos c1, if_neg c2]
    simp only [e, decide_eq_false c2, Bool.not_false, TT, ↓reduceIte, Nat.reduceEqDiff, Nat.reduceAdd, Nat.reduceMul, reduceCtorEq, Nat.reduceLeDiff]
    exact Ends.data (.inr rfl) (by simp [ET]) ⟨trivial, trivial, trivial, trivial⟩
end Go.Proofs.YtonglhkiobibgaaGreatDoor
namespace Go.Proofs.YtonglhkiobibgaaGreatDoor
open Go.RowKit
set_option maxRecDepth 100000
def insB (l : List Ent) (i : Nat) (x : Ent) : List Ent := l.take i ++ x :: l.drop i
def InsAt (l : List Ent) (i : Nat) (x : Ent) : Prop := ∀ (i0 i1 nb : Nat) (y1 : Bool), i0 ≠ i1 → i0 < nb → i1 < nb → ASound Tryz.prog 222 [.os i0 0 l.length 2, .v (.int .i64 i), .os i1 0 1 2] nb (rowsM (rwsI i0 i1 y1 l x) (.ret (.os nb 0 (l.length + 1) 2) (outW (rwsI i0 i1 y1 l x) [none, none] ++ [(nb, some (.row true 134 (eEnts (insB l i x))))])))
theorem insAt_end {l : List Ent} (x : Ent) (h : l.length ≤ 1000) : InsAt l l.length x := fun i0 i1 nb y1 hne h0 h1 => by
  have := insE_spec l x i0 i1 nb y1 hne h0 h1 h
  unfold insB
  rw [List.take_length, List.drop_length]
  exact this
theorem entsClone_osE (fr : Bool) (l : List Ent) (nb : Nat) (h : l.length ≤ 1000) : ASound Tryz.prog 130 [fEnts fr l] nb (.ret (.os nb 0 l.length 2) [(nb, some (.row true 134 (eEnts l)))]) := by
  by_cases h0 : l = []
  · subst h0
    refine ASound.nil1 fun A k => ?_
    refine ok_130.sound (by simp) ⟨trivial, trivial⟩ ?_
    cases A with
    | none =>
      simp only [ac_130, TT, ↓reduceIte, Nat.reduceEqDiff, Nat.reduceAdd, Nat.reduceMul, reduceCtorEq, Nat.reduceLeDiff]
      refine Ends.weak (Weak.virtC 134 2 (l := [(2, .os 400000 0 0 2)]) (h := []) ?_ ?_) (Ends.rows1 (i := 400000) (cells := []) (r0 := .os 400000 0 0 2) (.inr rfl) (by simp [ET]) (by simp [ET]) trivial (by simp [Al]) (by simp [ren, rn]))
      · simp [WT]
      · simp [WT]
    | some A =>
      simp only [ac_130, TT, ↓reduceIte, Nat.reduceEqDiff, Nat.reduceAdd, Nat.reduceMul, reduceCtorEq, Nat.reduceLeDiff]
      exact Ends.rows1 (i := 500000) (cells := []) (r0 := .os 500000 0 0 2) (.inr rfl) (by simp [ET]) (by simp [ET]) trivial (by simp [Al]) (by simp [ren, rn])
  · exact entsClone_os fr l nb h h0
/-- an entry more, and what is amiss -/
def addE (l : List Ent) (x : Ent) : List Ent × Int :=
  if chkD l ≠ 0 then ([], chkD l) else if nameE x.name ≠ 0 then ([], nameE x.name) else if mayE x = false then ([], 4) else if hasE l x.name then ([], 102) else if 63 ≤ l.length then ([], 51) else (insB l (plcE l x.name) x, 0)
theorem insB_len {l : List Ent} {i : Nat} {x : Ent} (h : i ≤ l.length) : (insB l i x).length = l.length + 1 := by simp [insB]; omega
set_option maxHeartbeats 2000000 in
theorem dadd_spec (fr : Bool) (l : List Ent) (x : Ent) (nb : Nat) (hl : l.length ≤ 1000) (hp : plcE l x.name ≤ l.length) (hins : chkD l = 0 → nameE x.name = 0 → mayE x = true → ¬ hasE l x.name → l.length < 63 → InsAt l (plcE l x.name) x) :
    ASound Tryz.prog 173 [fEnts fr l, aEnt x] nb (.ret (.tup [fEnts true (addE l x).1, .v (.int .i64 (addE l x).2)]) []) := by
  refine ok_173.sound (by simp) ⟨al_fEnts l, ⟨trivial, trivial, trivial⟩, trivial⟩ ?_
  have hnil : ∀ c : Int, Imp (.tup [.v (.slice none 0 0), .v (.int .i64 c)]) (.tup [.fs true [] 0, .v (.int .i64 c)]) := fun c => Imp.tupL ⟨Imp.nil true, Imp.refl _, trivial⟩
  have h1 := fun nb => dchk_spec fr l nb
  have h2 := fun nb => search_spec fr l x.name nb (by omega)
  have h3 := fun nb => entsClone_osE fr l nb hl
  have h4 := fun nb => mayE_spec x nb
  simp only [fEnts, aEnt] at h1 h2 h3 h4
  simp only [ac_173, fEnts, aEnt, TT, ↓reduceIte, Nat.reduceEqDiff, Nat.reduceAdd, Nat.reduceMul, reduceCtorEq, Nat.reduceLeDiff]
  refine ⟨_, h1 _, ?_⟩
  by_cases c1 : ¬ chkD l = 0
  · have e : addE l x = ([], chkD l) := by rw [addE, if_pos c1]
    simp only [c1, e, decide_false, Bool.not_false, TT, ↓reduceIte, Nat.reduceEqDiff, Nat.reduceAdd, Nat.reduceMul, reduceCtorEq, Nat.reduceLeDiff]
    exact Ends.imp (r0 := .tup [.v (.slice none 0 0), .v (.int .i64 (chkD l))]) (.inr rfl) (by simp [ET]) ⟨trivial, trivial, trivial⟩ (hnil _)
  replace c1 : chkD l = 0 := Decidable.not_not.1 c1
  simp only [c1, decide_true, Bool.not_true, TT, ↓reduceIte, Nat.reduceEqDiff, Nat.reduceAdd, Nat.reduceMul, reduceCtorEq, Nat.reduceLeDiff]
  refine ⟨_, name_spec x.name _, ?_⟩
  by_cases c2 : ¬ nameE x.name = 0
  · have e : addE l x = ([], nameE x.name) := by rw [addE, if_neg (by simp [c1]), if_pos c2]
    simp only [c2, e, decide_false, Bool.not_false, TT, ↓reduceIte, Nat.reduceEqDiff, Nat.reduceAdd, Nat.reduceMul, reduceCtorEq, Nat.reduceLeDiff]
    exact Ends.imp (r0 := .tup [.v (.slice none 0 0), .v (.int .i64 (nameE x.name))]) (.inr rfl) (by simp [ET]) ⟨trivial, trivial, trivial⟩ (hnil _)
  replace c2 : nameE x.name = 0 := Decidable.not_not.1 c2
  simp only [c2, decide_true, Bool.not_true, TT, ↓reduceIte, Nat.reduceEqDiff, Nat.reduceAdd, Nat.reduceMul, reduceCtorEq, Nat.reduceLeDiff]
  refine ⟨_, h2 _, ?_⟩
  simp only [TT, ↓reduceIte, Nat.reduceEqDiff, Nat.reduceAdd, Nat.reduceMul, reduceCtorEq, Nat.reduceLeDiff]
  refine ⟨_, h4 _, ?_⟩
  cases c3 : mayE x
  · have e : addE l x = ([], 4) := by rw [addE, if_neg (by simp [c1]), if_neg (by simp [c2]), if_pos c3]
    simp only [e, Bool.not_false, TT, ↓reduceIte, Nat.reduceEqDiff, Nat.reduceAdd, Nat.reduceMul, reduceCtorEq, Nat.reduceLeDiff]
    exact Ends.imp (r0 := .tup [.v (.slice none 0 0), .v (.int .i64 4)]) (.inr rfl) (by simp [ET]) ⟨trivial, trivial, trivial⟩ (hnil _)
  by_cases c4 : hasE l x.name
  · have e : addE l x = ([], 102) := by rw [addE, if_neg (by simp [c1]), if_neg (by simp [c2]), if_neg (by simp [c3]), if_pos c4]
    simp only [e, decide_eq_true c4, Bool.not_true, TT, ↓reduceIte, Nat.reduceEqDiff, Nat.reduceAdd, Nat.reduceMul, reduceCtorEq, Nat.reduceLeDiff]
    exact Ends.imp (r0 := .tup [.v (.slice none 0 0), .v (.int .i64 102)]) (.inr rfl) (by simp [ET]) ⟨trivial, trivial, trivial⟩ (hnil _)
  by_cases c5 : 63 ≤ l.length
  · have e : addE l x = ([], 51) := by rw [addE, if_neg (by simp [c1]), if_neg (by simp [c2]), if_neg (by simp [c3]), if_neg c4, if_pos c5]
    have g : (63 : Int) ≤ (l.length : Int) := by omega
    simp only [e, decide_eq_false c4, Bool.not_true, g, decide_true, TT, ↓reduceIte, Nat.reduceEqDiff, Nat.reduceAdd, Nat.reduceMul, reduceCtorEq, Nat.reduceLeDiff]
    exact Ends.imp (r0 := .tup [.v (.slice none 0 0), .v (.int .i64 51)]) (.inr rfl) (by simp [ET]) ⟨trivial, trivial, trivial⟩ (hnil _)
  have e : addE l x = (insB l (plcE l x.name) x, 0) := by rw [addE, if_neg (by simp [c1]), if_neg (by simp [c2]), if_neg (by simp [c3]), if_neg c4, if_neg c5]
  have g : ¬ (63 : Int) ≤ (l.length : Int) := by omega
  have h5 := hins c1 c2 c3 c4 (by omega)
  simp only [e, decide_eq_false c4, Bool.not_true, g, decide_false, TT, ↓reduceIte, Nat.reduceEqDiff, Nat.reduceAdd, Nat.reduceMul, reduceCtorEq, Nat.reduceLeDiff]
  refine ⟨_, h3 _, ?_⟩
  simp only [TT, ↓reduceIte, Nat.reduceEqDiff, Nat.reduceAdd, Nat.reduceMul, reduceCtorEq, Nat.reduceLeDiff]
  refine ⟨_, h5 3400000 3700000 _ true (by decide) (by decide) (by decide), ?_⟩
  simp only [rowsM, outW, rwsI, eEnt, Option.map_none, List.cons_append, List.nil_append, TT, ↓reduceIte, Nat.reduceEqDiff, Nat.reduceAdd, Nat.reduceMul, reduceCtorEq, Nat.reduceLeDiff]
  have hlen : (insB l (plcE l x.name) x).length = l.length + 1 := insB_len hp
  have htk : (eEnts (insB l (plcE l x.name) x)).take ((l.length + 1) * 2) = eEnts (insB l (plcE l x.name) x) := by rw [← hlen]; exact tk_Ents _
  refine ⟨by rfl, Ends.weak (Weak.freezeC 3800000 rfl (l := [(4, .fs true (eEnts (insB l (plcE l x.name) x)) (insB l (plcE l x.name) x).length), (5, .v (.int .i64 0))]) (h := []) ?_ ?_) (Ends.data (.inr rfl) (by simp [ET]) ⟨al_Ents _, trivial, trivial⟩)⟩
  · simp [okF, fzV, fzOne, ET, htk, hlen]
  · trivial
end Go.Proofs.YtonglhkiobibgaaGreatDoor
namespace Go.Proofs.YtonglhkiobibgaaGreatDoor
open Go.RowKit Go.Shelf
attribute [local go_sem] Oper.semAt_some
set_option maxRecDepth 100000
theorem hasPrefix_spec (s p : ByteArray) (nb : Nat) : ASound Tryz.prog 248 [.v (.string s), .v (.string p)] nb (.ret (.v (.bool (decide (p.size ≤ s.size ∧ s.extract 0 p.size = p)))) []) := by
  refine ok_248.sound (by simp) ⟨trivial, trivial, trivial⟩ ?_
  by_cases h : p.size ≤ s.size
  · have g1 : ((p.size : Int) ≤ (s.size : Int)) = True := eq_true (by omega)
    have g2 : ((0 : Int) ≤ (p.size : Int)) = True := eq_true (by omega)
    simp only [ac_248, g1, g2, decide_true, and_self, Int.toNat_natCast, strOp, TT, ↓reduceIte, Nat.reduceEqDiff, Nat.reduceAdd, Nat.reduceMul, reduceCtorEq, Nat.reduceLeDiff]
    exact Ends.data (.inr rfl) (by simp [ET, h]) trivial
  · have g1 : ((p.size : Int) ≤ (s.size : Int)) = False := eq_false (by omega)
    simp only [ac_248, g1, decide_false, TT, ↓reduceIte, Nat.reduceEqDiff, Nat.reduceAdd, Nat.reduceMul, reduceCtorEq, Nat.reduceLeDiff]
    exact Ends.data (.inr rfl) (by simp [ET, h]) trivial
theorem cutPrefixL_spec (s p : ByteArray) (nb : Nat) (h : p.size ≤ s.size ∧ s.extract 0 p.size = p) : ASound Tryz.prog 217 [.v (.string s), .v (.string p)] nb (.ret (.tup [.v (.string (s.extract p.size s.size)), .v (.bool true)]) []) := by
  refine ok_217.sound (by simp) ⟨trivial, trivial, trivial⟩ ?_
  have hp := fun nb => hasPrefix_spec s p nb
  rw [decide_eq_true h] at hp
  have g1 : ((p.size : Int) ≤ (s.size : Int)) = True := eq_true (by have := h.1; omega)
  have g2 : ((0 : Int) ≤ (p.size : Int)) = True := eq_true (by omega)
  simp only [ac_217, TT, ↓reduceIte, Nat.reduceEqDiff, Nat.reduceAdd, Nat.reduceMul, reduceCtorEq, Nat.reduceLeDiff]
  refine ⟨_, hp _, ?_⟩
  simp only [g1, g2, and_self, Int.toNat_natCast, TT, ↓reduceIte, Nat.reduceEqDiff, Nat.reduceAdd, Nat.reduceMul, reduceCtorEq, Nat.reduceLeDiff]
  exact Ends.data (.inr rfl) (by simp [ET]) ⟨trivial, trivial, trivial⟩
theorem cutPrefix_spec (s p : ByteArray) (nb : Nat) (h : p.size ≤ s.size ∧ s.extract 0 p.size = p) : ASound Tryz.prog 168 [.v (.string s), .v (.string p)] nb (.ret (.tup [.v (.string (s.extract p.size s.size)), .v (.bool true)]) []) := by
  refine ok_168.sound (by simp) ⟨trivial, trivial, trivial⟩ ?_
  simp only [ac_168, TT, ↓reduceIte, Nat.reduceEqDiff, Nat.reduceAdd, Nat.reduceMul, reduceCtorEq, Nat.reduceLeDiff]
  refine ⟨_, cutPrefixL_spec s p _ h, ?_⟩
  simp only [TT, ↓reduceIte, Nat.reduceEqDiff, Nat.reduceAdd, Nat.reduceMul, reduceCtorEq, Nat.reduceLeDiff]
  exact Ends.data (.inr rfl) (by simp [ET]) ⟨trivial, trivial, trivial⟩
set_option maxHeartbeats 1000000 in
theorem index_walk (s : ByteArray) (c : UInt8) (hne : [c] ≠ s.toList) (w : World) :
    Calls Tryz.prog 281 #[.string s, .string (ByteArray.mk #[c])] w fun e w' => e = .returned (.int .i64 (Lib.indexByte s.data.toList c)) ∧ w' = w := by
  have hne' : ([c] == s.toList) = false := by simpa using hne
  have hz : (ByteArray.mk #[c]).size = 1 := rfl
  have hg : (ByteArray.mk #[c])[0]? = some c := rfl
  go_enter Tryz.func281, Tryz.ntmps281
  go_wp2_with (go_at_call 298; refine (indexL_walk s c _).mono ?_; rintro e w' ⟨rfl, rfl⟩)
  go_ret
  exact ⟨rfl, rfl⟩
end Go.Proofs.YtonglhkiobibgaaGreatDoor
namespace Go.Proofs.YtonglhkiobibgaaGreatDoor
open Go.RowKit
set_option maxRecDepth 100000
theorem NoM.of : ∀ {l : List (Nat × AObj)}, (∀ i y e cells, (i, AObj.row y e cells) ∈ l → e ≠ MAPE) → NoM (heapOf l)
  | [], _ => fun i y e cells h => by simp [heapOf] at h
  | (j, o) :: r, h => fun i y e cells h2 => by
    rw [heapOf] at h2
    split at h2
    · cases h2; exact h j y e cells (by simp)
    · exact NoM.of (l := r) (fun i y e cells hm => h i y e cells (List.mem_cons_of_mem _ hm)) i y e cells h2
end Go.Proofs.YtonglhkiobibgaaGreatDoor
namespace Go.Proofs.YtonglhkiobibgaaGreatDoor
open Go.RowKit
theorem idxB_lt : ∀ (l : List UInt8) (c : UInt8), Lib.indexByte l c ≠ -1 → 0 ≤ Lib.indexByte l c ∧ (Lib.indexByte l c).toNat < l.length
  | [], c, h => absurd rfl h
  | b :: l, c, h => by
    unfold Lib.indexByte at h ⊢
    split
    · simp
    · rename_i h1
      rw [if_neg h1] at h
      split
      · rename_i h2; rw [if_pos h2] at h; exact absurd rfl h
      · rename_i h2
        obtain ⟨k1, k2⟩ := idxB_lt l c (by simpa using h2)
        simp only [List.length_cons]
        omega
/-- a string's parts between octets c -/
def partsF (c : UInt8) : Nat → ByteArray → List ByteArray
  | 0, s => [s]
  | n + 1, s => if Lib.indexByte s.data.toList c = -1 then [s] else s.extract 0 (Lib.indexByte s.data.toList c).toNat :: partsF c n (s.extract ((Lib.indexByte s.data.toList c).toNat + 1) s.size)
theorem partsF_one {c : UInt8} {n : Nat} {s : ByteArray} (h : Lib.indexByte s.data.toList c = -1) : partsF c n s = [s] := by
  cases n with
  | zero => rfl
  | succ n => rw [partsF, if_pos h]
theorem size_len (s : ByteArray) : s.data.toList.length = s.size := by rw [Array.length_toList]; rfl
theorem partsF_more {c : UInt8} {n : Nat} {s : ByteArray} (hn : s.size ≤ n) (h : Lib.indexByte s.data.toList c ≠ -1) : ∃ m, n = m + 1 ∧ (s.extract ((Lib.indexByte s.data.toList c).toNat + 1) s.size).size ≤ m ∧
    partsF c n s = s.extract 0 (Lib.indexByte s.data.toList c).toNat :: partsF c m (s.extract ((Lib.indexByte s.data.toList c).toNat + 1) s.size) := by
  obtain ⟨k1, k2⟩ := idxB_lt _ _ h
  rw [size_len] at k2
  cases n with
  | zero => omega
  | succ n =>
    refine ⟨n, rfl, ?_, by rw [partsF, if_neg h]⟩
    rw [ByteArray.size_extract]; omega
def partsL (c : UInt8) : List UInt8 → List (List UInt8)
  | [] => [[]]
  | b :: l => if b = c then [] :: partsL c l else match partsL c l with
    | h :: t => (b :: h) :: t
    | [] => [[b]]
theorem partsL_ne (c : UInt8) : ∀ l, partsL c l ≠ []
  | [] => by simp [partsL]
  | b :: l => by
    rw [partsL]
    split
    · simp
    · split <;> simp
theorem partsL_app (c : UInt8) : ∀ (a x : List UInt8), partsL c (a ++ c :: x) = partsL c a ++ partsL c x
  | [], x => by simp [partsL]
  | b :: a, x => by
    rw [List.cons_append]
    by_cases h : b = c
    · simp [partsL, h, partsL_app c a x]
    · rw [partsL, if_neg h, partsL, if_neg h, partsL_app c a x]
      cases hp : partsL c a with
      | nil => exact absurd hp (partsL_ne c a)
      | cons h t => rfl
theorem partsL_no (c : UInt8) : ∀ x : List UInt8, c ∉ x → partsL c x = [x]
  | [], _ => rfl
  | b :: x, h => by
    rw [List.mem_cons, not_or] at h
    rw [partsL, if_neg (fun e => h.1 e.symm), partsL_no c x h.2]
theorem idxB_none (c : UInt8) : ∀ l : List UInt8, Lib.indexByte l c = -1 → c ∉ l
  | [], _ => by simp
  | b :: l, h => by
    unfold Lib.indexByte at h
    split at h
    · cases h
    · rename_i h1
      split at h
      · rename_i h2
        rw [List.mem_cons, not_or]
        exact ⟨fun e => h1 (by simp [e]), idxB_none c l (by simpa using h2)⟩
      · have := Lib.indexByte_ge l c
        omega
theorem idxB_split (c : UInt8) : ∀ l : List UInt8, Lib.indexByte l c ≠ -1 → l = l.take (Lib.indexByte l c).toNat ++ c :: l.drop ((Lib.indexByte l c).toNat + 1) ∧ c ∉ l.take (Lib.indexByte l c).toNat
  | [], h => absurd rfl h
  | b :: l, h => by
    unfold Lib.indexByte at h ⊢
    by_cases h1 : (b == c) = true
    · rw [if_pos h1]
      have : b = c := by simpa using h1
      simp [this]
    · rw [if_neg h1] at h ⊢
      by_cases h2 : (Lib.indexByte l c == -1) = true
      · rw [if_pos h2] at h; exact absurd rfl h
      · rw [if_neg h2]
        have h3 : Lib.indexByte l c ≠ -1 := by simpa using h2
        obtain ⟨k1, k2⟩ := idxB_split c l h3
        have h4 := (idxB_lt l c h3).1
        have e : (Lib.indexByte l c + 1).toNat = (Lib.indexByte l c).toNat + 1 := by omega
        rw [e]
        refine ⟨?_, ?_⟩
        · rw [List.take_succ_cons, List.drop_succ_cons, List.cons_append]
          exact congrArg _ k1
        · rw [List.take_succ_cons, List.mem_cons, not_or]
          exact ⟨fun e => h1 (by simp [e]), k2⟩
def mkB (l : List UInt8) : ByteArray := ⟨l.toArray⟩
theorem mkB_data (s : ByteArray) : mkB s.data.toList = s := by simp [mkB]
theorem ext_list (s : ByteArray) (a b : Nat) : (s.extract a b).data.toList = (s.data.toList.drop a).take (b - a) := by
  rw [ByteArray.data_extract, Array.toList_extract, List.extract_eq_take_drop]
theorem ext_mk (s : ByteArray) (a b : Nat) : s.extract a b = mkB ((s.data.toList.drop a).take (b - a)) := by rw [← ext_list, mkB_data]
theorem partsF_L (c : UInt8) : ∀ (n : Nat) (s : ByteArray), s.size ≤ n → partsF c n s = (partsL c s.data.toList).map mkB
  | n, s, hn => by
    by_cases h : Lib.indexByte s.data.toList c = -1
    · rw [partsF_one h, partsL_no c _ (idxB_none c _ h)]
      simp [mkB_data]
    · obtain ⟨m, rfl, h1, h2⟩ := partsF_more hn h
      rw [h2, partsF_L c m _ h1]
      obtain ⟨k1, k2⟩ := idxB_split c _ h
      have e1 : partsL c s.data.toList = s.data.toList.take (Lib.indexByte s.data.toList c).toNat :: partsL c (s.data.toList.drop ((Lib.indexByte s.data.toList c).toNat + 1)) := by
        conv => lhs; rw [k1]
        rw [partsL_app, partsL_no c _ k2]; rfl
      rw [e1, List.map_cons, ext_list, List.take_of_length_le (by rw [List.length_drop, size_len]; exact Nat.le_refl _), ext_mk, List.drop_zero, Nat.sub_zero]
/-- what a path's octets behind the first one say -/
def namesL (l : List UInt8) : List ByteArray := ((partsL 47 l).map mkB).filter (fun s => decide (s ≠ ByteArray.mk #[]))
theorem namesL_snoc (l x : List UInt8) (h : 47 ∉ x) (hx : x ≠ []) : namesL (l ++ 47 :: x) = namesL l ++ [mkB x] := by
  have e : decide (mkB x ≠ ByteArray.mk #[]) = true := by
    rw [decide_eq_true_iff]
    intro h9
    have : x.toArray = #[] := congrArg ByteArray.data h9
    exact hx (by simpa using this)
  rw [namesL, namesL, partsL_app, partsL_no 47 x h, List.map_append, List.filter_append]
  simp only [List.map_cons, List.map_nil, List.filter_cons, e, if_true, List.filter_nil]
/-- a path's names, or what is amiss -/
def splitP (s : ByteArray) : List ByteArray × Int :=
  if 128 < s.size then ([], 5) else if 1 ≤ s.size ∧ s.extract 0 1 = ByteArray.mk #[47] then (if namedL (namesL (s.data.toList.drop 1)) = 0 then (namesL (s.data.toList.drop 1), 0) else ([], namedL (namesL (s.data.toList.drop 1)))) else ([], 106)
theorem namI_snoc {x : ByteArray} (hx : nameE x = 0) : ∀ {l : List ByteArray}, namI l = 0 → namI (l ++ [x]) = 0
  | [], _ => by simp [namI, hx]
  | y :: l, h => by
    rw [namI] at h
    split at h
    · rename_i h1
      rw [List.cons_append, namI, if_pos h1, namI_snoc hx h]
    · rename_i h1; exact absurd h h1
theorem nameE_zero {x : ByteArray} (h : nameE x = 0) : x ≠ ByteArray.mk #[] ∧ 47 ∉ x.data.toList := by
  unfold nameE at h
  split at h
  · cases h
  · rename_i h1
    exact ⟨fun e => h1 (.inl e), fun e => h1 (.inr (.inr (.inr (.inr (.inl e)))))⟩
theorem split_len {p : ByteArray} {l : List ByteArray} (h : splitP p = (l, 0)) : p.size ≤ 128 ∧ 1 ≤ p.size ∧ p.extract 0 1 = ByteArray.mk #[47] ∧ l = namesL (p.data.toList.drop 1) ∧ namedL l = 0 ∧ l.length ≤ 8 := by
  unfold splitP at h
  split at h
  · cases h
  · split at h
    · rename_i h1 h2
      split at h
      · rename_i h3
        obtain ⟨rfl, _⟩ := Prod.mk.inj h
        refine ⟨by omega, h2.1, h2.2, rfl, h3, ?_⟩
        unfold namedL at h3
        split at h3
        · split at h3
          · cases h3
          · omega
        · rename_i h4; exact absurd h3 h4
      · rename_i h3
        exact absurd (Prod.mk.inj h).2 h3
    · cases h
theorem split_snoc {p x : ByteArray} {l : List ByteArray} (h : splitP p = (l, 0)) (hx : nameE x = 0) (hz : p.size + 1 + x.size ≤ 128) (hl : l.length + 1 ≤ 8) : splitP (p ++ ByteArray.mk #[47] ++ x) = (l ++ [x], 0) := by
  obtain ⟨h1, h2, h3, rfl, h5, _⟩ := split_len h
  obtain ⟨x1, x2⟩ := nameE_zero hx
  have hd : (p ++ ByteArray.mk #[47] ++ x).data.toList = p.data.toList ++ 47 :: x.data.toList := by simp
  have hsz : (p ++ ByteArray.mk #[47] ++ x).size = p.size + 1 + x.size := by
    rw [← size_len, hd, List.length_append, List.length_cons, size_len, size_len]; omega
  have hpl := size_len p
  have hxe : (p ++ ByteArray.mk #[47] ++ x).extract 0 1 = ByteArray.mk #[47] := by
    refine Eq.trans ?_ h3
    rw [ext_mk, ext_mk, hd, List.drop_zero, List.drop_zero, Nat.sub_zero, List.take_append_of_le_length (by omega)]
  have hn : namesL ((p ++ ByteArray.mk #[47] ++ x).data.toList.drop 1) = namesL (p.data.toList.drop 1) ++ [x] := by
    rw [hd, List.drop_append_of_le_length (by omega), namesL_snoc _ _ x2 (fun e => x1 (by rw [← mkB_data x, e]; rfl)), mkB_data]
  have hnd : namedL (namesL (p.data.toList.drop 1) ++ [x]) = 0 := by
    unfold namedL at h5 ⊢
    split at h5
    · rename_i h6
      rw [if_pos (namI_snoc hx h6), if_neg]
      rw [List.length_append, List.length_singleton]; omega
    · rename_i h6; exact absurd h5 h6
  unfold splitP
  rw [if_neg (by omega), if_pos ⟨by omega, hxe⟩, hn, if_pos hnd]
end Go.Proofs.YtonglhkiobibgaaGreatDoor
namespace Go.Proofs.YtonglhkiobibgaaGreatDoor
open Go.RowKit
variable {P : Program} {N m : Nat}
/-- function g, with such captured values, yields L values, one behind the other; between rounds it writes the cell at p, and nothing else -/
def SeqW (n : Nat) (P : Program) (g : Nat) (lb : Array Value) (encs : Nat → Array Value) (p : Addr) (Kp : World → Prop) (s0 : ByteArray) (L : Nat) : Prop :=
  ∀ (l : Nat) (J : Nat → ByteArray → World → Prop) (W : World),
    (∀ k s s' W1, J k s W1 → J k s' (W1.setCell p (.string s'))) →
    (∀ k s W1, J k s W1 → J k s W1.drew) →
    (∀ k s W1, J k s W1 → Kp W1 ∧ W1.cell? p = some (.string s) ∧ W1.frozen? p = false) →
    (∀ k s W1, k < L → J k s W1 → YieldAt Fence.wide (n - 1) P l (encs k) W1 fun e W' => e = .returned (.bool true) ∧ J (k + 1) s W') →
    J 0 s0 W →
    CallsIn Fence.wide n P g (#[.func (.yield l) #[] #[]] ++ lb) W fun e W' => (∃ v, e = .returned v) ∧ ∃ s, J L s W'
def IterW (P : Program) (gf : Nat) (caps : List AV) (id : Nat) (s0 : ByteArray) (L : List (List AV)) : Prop :=
  enters P gf = true ∧ ∀ (c : Cx) (lb : List Value) (b : Nat), HR c → VRt c caps lb → c.φ id = some (some b) → ∃ V : Nat → List Value, (∀ k (h : k < L.length), VRt c L[k] (V k)) ∧
    SeqW 2 P gf lb.toArray (fun k => (V k).toArray) ⟨b, 0, none⟩ (fun W => ∀ x, x < c.w.heap.size → ¬ c.T x → (c.X x → c.Y x = .no) → W.heap[x]? = c.w.heap[x]?) s0 L.length
/-- how a round ends -/
def rngW (N m1 : Nat) (q : Heap × Nat) : Exit → ASt → Prop
  | .normal, s => Weak N m1 s ⟨fun _ => .any, q.1, q.2⟩
  | _, _ => False
set_option maxHeartbeats 1000000 in
theorem AWc.rangeW {g : Operand} {ps : List Nat} {mv : List (Nat × Operand)} {b : AC} {st : ASt} {Q : Exit → ASt → Prop} {gf : Nat} {caps : List AV} {L : List (List AV)} (m1 : Nat) (hm : m ≤ m1) (id : Nat) (hid : id < m1) (s0 : ByteArray)
    (hg : evA st.env g = .fn gf caps) (hI : IterW P gf caps id s0 L) (hfl : b.flat = true)
    (hLp : ∀ l ∈ L, AlNL (fun i => i < m1) l ∧ l.length = ps.length) (hlow : ∀ t, AlN (fun i => i < m1) (st.env t))
    (y : Bool) (e : Nat) (he : e ≠ MAPE) (F : Nat → ByteArray → Heap × Nat) (hF0 : F 0 s0 = (st.σ, st.nx)) (hFn : ∀ k s, m1 ≤ (F k s).2) (hFm : ∀ k s, NoM (F k s).1)
    (hFc : ∀ k s, (F k s).1 id = some (.row y e [.v (.string s)]))
    (hFs : ∀ k s s', (F k s').1 = app (F k s).1 [(id, some (.row y e [.v (.string s')]))] ∧ (F k s').2 = (F k s).2)
    (hbody : ∀ (k : Nat) (s : ByteArray) (hk : k < L.length), wpC P N m1 b ⟨mvE mv (bindP ps L[k] st.env), (F k s).1, (F k s).2⟩ (rngW N m1 (F (k + 1) s)))
    (hdone : ∀ s, Q .normal ⟨st.env, (F L.length s).1, (F L.length s).2⟩) : AWc P N m (.rfunc g ps mv b) st Q := by
  intro code hc ro hro
  have hro : ro = none := hro.resolve_right (by simp [AC.flat])
  subst hro
  obtain ⟨pa, asg, x, rfl, rfl, hmv, hx, hps, hmvN⟩ := comp_rfunc hc
  intro n c a hr hmn
  have hv := hr.eval g
  rw [hg] at hv
  obtain ⟨lb, hgu, hlb⟩ := hv
  obtain ⟨hent, hI⟩ := hI
  have hσ : c.σ id = some (.row y e [.v (.string s0)]) := by rw [hr.σ]; have h9 := hFc 0 s0; rw [hF0] at h9; exact h9
  obtain ⟨bx, hφ, hbx⟩ : ∃ bx, c.φ id = some (some bx) ∧ bx < c.w.heap.size := by
    rcases hr.hr.row id y e _ hσ with ⟨_, h2, _⟩ | ⟨b, cs, h1, h2, _⟩
    · cases h2
    · exact ⟨b, h1, h2.lt⟩
  obtain ⟨V, hV, hseq⟩ := hI c lb bx hr.hr hlb hφ
  show (Code.rangeFunc g pa asg x).wpIn Fence.wide n P _ a c.w
  rw [wpIn_wide, ← wpIn_wide (n := 3)]
  have hVl : ∀ k, k < L.length → (V k).length = pa.size := fun k h => by
    rw [(VRt_iff.1 (hV k h)).1, (hLp L[k] (List.getElem_mem h)).2]; simp
  have envs : ∀ {c' : Cx} {σ : Heap} {nx : Nat}, Grow c c' → (∀ id, id < m1 → c'.φ id = c.φ id) → HR c' → c'.σ = σ → (∀ id, nx ≤ id → c'.φ id = none) → RelR N nx No c' ⟨st.env, σ, nx⟩ a := by
    intro c' σ nx hgr hl hh hs hf
    exact ⟨hr.size, fun t => (hr.env t).monoP (p := fun i => i < m1) hgr (fun id y h1 h2 => by rw [hl id h1]; exact h2) (hlow t), hh, hs, fun id h1 h2 => absurd (hf id h1) h2⟩
  have fresh' : ∀ {nx : Nat} {c' : Cx} {s : ASt} {a' : Act}, RelR N nx No c' s a' → ∀ id, nx ≤ id → c'.φ id = none := by
    intro nx c' s a' h id hid
    cases hq : c'.φ id with
    | none => rfl
    | some y => obtain ⟨j, hj, _⟩ := h.fresh id hid (by rw [hq]; simp); exact hj.elim
  obtain ⟨I, hIe⟩ : ∃ I : Nat × ByteArray → World → Prop, I = fun q W => ∃ c', c'.w = W ∧ Grow c c' ∧ (∀ id, id < m1 → c'.φ id = c.φ id) ∧ RelR N (F q.1 q.2).2 No c' ⟨st.env, (F q.1 q.2).1, (F q.1 q.2).2⟩ a := ⟨_, rfl⟩
  have hIo : OwnFrom c.w.heap.size I := by
    rw [hIe]
    rintro ⟨k, s⟩ W W' row ⟨c', rfl, h1, h2, h3⟩ hgr hrow
    have hs : Side c.w.heap.size c' W' := Side.grown hgr hrow (by rw [h3.σ]; exact hFm k s)
    exact ⟨c'.at W', rfl, h1.side hs (Nat.le_refl _), h2, h3.side hs⟩
  have hI0 : I (0, s0) c.w := by rw [hIe]; exact ⟨c, rfl, Grow.refl c, fun _ _ => rfl, by simp only [hF0]; exact hr⟩
  refine wpIn_rangeFunc ?_
  intro fn hfn
  rw [show Fence.wide.round = none from rfl]
  obtain ⟨rec, hrec⟩ : ∃ rec : LoopState → Option Code → Loop, rec = fun st pe => { state := st, pending := pe, fn, tmps := a.tmps, params := pa, assign := asg, body := x, defers := c.w.heap.size } := ⟨_, rfl⟩
  obtain ⟨W1, hW1⟩ : ∃ W1, (c.w.alloc (.deferred (some []))).alloc (.loop (rec .ready none)) = W1 := ⟨_, rfl⟩
  have hL1 : W1.heap[c.w.heap.size + 1]? = some (.loop (rec .ready none)) := by
    rw [← hW1]; have := World.alloc_heap_new (c.w.alloc (.deferred (some []))) (.loop (rec .ready none)); rwa [World.size_alloc] at this
  have hK1 : W1.heap[c.w.heap.size]? = some (.deferred (some [])) := by
    rw [← hW1]; exact (Below.heap_alloc _ _ _ (by simp)).trans (World.alloc_heap_new c.w _)
  have hI1 : I (0, s0) W1 := by rw [← hW1]; exact hIo.alloc _ (hIo.alloc _ hI0)
  refine ⟨c.w.heap.size + 1, [{ target := .collected c.w.heap.size, args := #[] }], W1, { target := .fn (.func gf) lb.toArray, args := #[.func (.yield (c.w.heap.size + 1)) #[] #[]] }, W1, gf,
    #[.func (.yield (c.w.heap.size + 1)) #[] #[]] ++ lb.toArray, W1, ?_, ?_, ?_, ?_, fun _ => (by decide), ?_⟩
  · rw [← hW1, hrec]; exact run_enterLoop_outer _ _ _ _ _
  · simp only [resolve, hgu]
    simp [go_sem]
  · intro f' hf'; trivial
  · have eg := fun args w => run_callFunc (P := P) hent args w
    simp [invoke, go_sem, eg]
  · refine (hseq (c.w.heap.size + 1)
      (fun k s W => I (k, s) W ∧ W.heap[c.w.heap.size + 1]? = some (.loop (rec .ready none)) ∧ W.heap[c.w.heap.size]? = some (.deferred (some [])))
      W1 ?_ ?_ ?_ ?_ ⟨hI1, hL1, hK1⟩).mono ?_
    · rintro k s s' W ⟨hi, hl, hk⟩
      refine ⟨?_, (Below.heap_setCell _ _ _ _ (by show c.w.heap.size + 1 ≠ bx; omega)).trans hl, (Below.heap_setCell _ _ _ _ (by show c.w.heap.size ≠ bx; omega)).trans hk⟩
      rw [hIe] at hi ⊢
      obtain ⟨c', rfl, h1, h2, h3⟩ := hi
      have hσ' : c'.σ id = some (.row y e [.v (.string s)]) := by rw [h3.σ]; exact hFc k s
      have hφ' : c'.φ id = some (some bx) := (h2 id hid).trans hφ
      obtain ⟨cs, hb, hsz⟩ : ∃ cs, c'.w.heap[bx]? = some (.cells cs e (0, 0)) ∧ 1 ≤ cs.size := by
        rcases h3.hr.row id y e _ hσ' with ⟨g1, _⟩ | ⟨b2, cs, g1, g2, _, g4, _⟩
        · rw [hφ'] at g1; cases g1
        · rw [hφ'] at g1; cases g1; exact ⟨cs, g2.cells2 he, g4⟩
      have t := Then.store h3.hr 0 (cells' := [.v (.string s')]) hσ' hφ' hb 0 [.string s'] (by simpa using hsz) (by simpa using hsz) (fun j a hj => by
        match j with
        | 0 =>
          cases hj
          exact ⟨.string s', by simp [setA, show 0 < cs.size from hsz], rfl, rfl⟩
        | j + 1 => simp at hj)
      obtain ⟨e1, e2⟩ := hFs k s s'
      refine ⟨_, rfl, h1.trans t.grow, h2, ⟨h3.size, fun t' => (h3.env t').mono t.grow t.names, t.hr, ?_, fun i q1 q2 => by
        obtain ⟨j, hj, _⟩ := h3.fresh i (by simp only [← e2]; exact q1) q2
        exact hj.elim⟩⟩
      show app c'.σ _ = (F k s').1
      rw [h3.σ, e1]
    · rintro k s W ⟨hi, hl, hk⟩
      exact ⟨hIo _ _ _ none hi ⟨rfl, rfl, rfl, Nat.le_refl _, fun _ _ _ => rfl⟩ (fun r e => by cases e), hl, hk⟩
    · rintro k s W ⟨hi, hl, hk⟩
      rw [hIe] at hi
      obtain ⟨c', rfl, h1, h2, h3⟩ := hi
      have hσ' : c'.σ id = some (.row y e [.v (.string s)]) := by rw [h3.σ]; exact hFc k s
      have hφ' : c'.φ id = some (some bx) := (h2 id hid).trans hφ
      refine ⟨h1.stay, ?_⟩
      rcases h3.hr.row id y e _ hσ' with ⟨g1, _⟩ | ⟨b2, cs, g1, g2, _, g4, g5⟩
      · rw [hφ'] at g1; cases g1
      · rw [hφ'] at g1; cases g1
        have hb := g2.cells2 he
        obtain ⟨u, k1, _, k3⟩ := g5 0 _ rfl
        obtain rfl : u = .string s := k3
        exact ⟨by simp [World.cell?, hb, k1], by simp [World.frozen?, hb]⟩
    · rintro k s W hkl ⟨hi, hl, hk⟩
      have hlt : c.w.heap.size + 1 < W.heap.size := (Array.getElem?_eq_some_iff.1 hl).1
      have hy := run_yield (P := P) (args := (V k).toArray) hl (by rw [hrec]; simp [hVl k hkl])
      rw [hrec] at hy
      refine ⟨fn, _, asg, x, hy, roundIn_of_wpIn hfn (mv_wp (ro := some (c.w.heap.size + 1)) (Q := Exit.then _ (fun _ _ _ => False)) hmv ⟨_, run_beginRound hl (by rw [hrec]), ?_⟩)⟩
      have hl2 : (W.putObj (c.w.heap.size + 1) (.loop { rec .ready none with state := .busy })).heap[c.w.heap.size + 1]? = some (.loop { rec .ready none with state := .busy }) := World.putObj_heap_same hlt
      have hk2 : (W.putObj (c.w.heap.size + 1) (.loop { rec .ready none with state := .busy })).heap[c.w.heap.size]? = some (.deferred (some [])) := (World.putObj_heap_other (by omega)).trans hk
      have hi2 := hIo.putObj (.loop { rec .ready none with state := .busy }) hi (by omega) hl rfl
      revert hl2 hk2 hi2
      generalize W.putObj (c.w.heap.size + 1) (.loop { rec .ready none with state := .busy }) = W2
      intro hl2 hk2 hi2
      have hi3 := hi2
      rw [hIe] at hi3
      obtain ⟨c', rfl, h1, h2, h3⟩ := hi3
      classical
      obtain ⟨Y, hY⟩ : ∃ Y : Nat → WK, ∀ b, Y b = if ∃ cs e f, c'.w.heap[b]? = some (.cells cs e f) then c'.Y b else .no := ⟨_, fun b => rfl⟩
      have hY1 : ∀ b, Y b = c'.Y b ∨ (Y b = .no ∧ ∀ cs e f, c'.w.heap[b]? ≠ some (.cells cs e f)) := fun b => by
        rw [hY b]
        split
        · exact .inl rfl
        · rename_i h; exact .inr ⟨rfl, fun cs e f h9 => h ⟨cs, e, f, h9⟩⟩
      have hwok : ∀ k b n, c'.wok k b n → (c'.reY Y).wok k b n := by
        rintro k b n ⟨k1, k2, k3, k4, sz, ⟨cs, e, k5, k6⟩, k7⟩
        refine ⟨k1, k2, ?_, k4, sz, ⟨cs, e, k5, k6⟩, k7⟩
        rcases hY1 b with h | ⟨_, h⟩
        · show Y b = k; rw [h]; exact k3
        · exact absurd k5 (h _ _ _)
      have hno : ∀ b, c'.Y b = .no → Y b = .no := fun b h => by
        rcases hY1 b with h9 | ⟨h9, _⟩
        · rw [h9, h]
        · exact h9
      have hr1 : RelR N (F k s).2 No (c'.reY Y) ⟨st.env, (F k s).1, (F k s).2⟩ { tmps := a.tmps, defers := [] } :=
        ⟨h3.size, fun t => (h3.env t).reY hwok, h3.hr.reY (fun b v hb hx => hno b ((h3.hr.gl b v hb).2.2 hx)) hwok, h3.σ, h3.fresh⟩
      have hV2 : VRt (c'.reY Y) L[k] (V k) := ((hV k hkl).monoP (p := fun i => i < m1) h1 (fun id y q1 q2 => by rw [h2 id q1]; exact q2) (hLp L[k] (List.getElem_mem hkl)).1).reY hwok
      have hr2 := (hr1.binds hps hV2).mvs hmvN
      have hz : (pa.zip (V k).toArray).foldl (fun t q => t.setIfInBounds q.1 q.2) a.tmps = (pa.toList.zip (V k)).foldl (fun t q => t.setIfInBounds q.1 q.2) a.tmps := by
        rw [← Array.foldl_toList, Array.toList_zip]
      have hb := wpC_sound (hbody k s hkl) x hx (some (c.w.heap.size + 1)) (.inr hfl) 1 (c'.reY Y) _ hr2 (hFn k s)
      rw [hz]
      refine wpIn_mono hb ?_
      have fin : ∀ {c3 : Cx} {s3 : ASt} {a3 : Act}, Grow (c'.reY Y) c3 → (∀ id, id < m1 → c3.φ id = (c'.reY Y).φ id) → RelR N s3.nx No c3 s3 a3 →
          KeepsOthers c'.w c3.w ∧ Grow c (c3.reY c'.Y) ∧ (∀ id, id < m1 → (c3.reY c'.Y).φ id = c.φ id) ∧ RelR N s3.nx No (c3.reY c'.Y) ⟨st.env, s3.σ, s3.nx⟩ a := by
        intro c3 s3 a3 hg3 hl3 hr3
        have hgg : Grow c (c3.reY c'.Y) := h1.trans (hg3.reYback hY1)
        have hll : ∀ id, id < m1 → (c3.reY c'.Y).φ id = c.φ id := fun id hid => (hl3 id hid).trans (h2 id hid)
        have hY3 : c3.Y = Y := hg3.Y
        have hh : HR (c3.reY c'.Y) := hr3.hr.reY (fun b v hb hx => (h3.hr.gl b v hb).2.2 (by rw [hg3.X] at hx; exact hx)) (by
          rintro k b n ⟨k1, k2, k3, k4, k5⟩
          refine ⟨k1, k2, ?_, k4, k5⟩
          rw [hY3] at k3
          rcases hY1 b with h | ⟨h, _⟩
          · show c'.Y b = k; rw [← h]; exact k3
          · rw [h] at k3; subst k3; rcases k4 with k4 | k4 <;> cases k4)
        refine ⟨⟨hg3.size, fun k1 o hk1 ho => ?_⟩, hgg, hll, envs hgg hll hh hr3.σ (fun id hid => fresh' hr3 id hid)⟩
        refine (hg3.stay k1 (Array.getElem?_eq_some_iff.1 hk1).1 (fun ht => ?_) (fun _ => ?_)).trans hk1
        · obtain ⟨cs, e, f, h9⟩ := h3.hr.T_cells (by rw [h3.σ]; exact hFm k s) ht
          rw [hk1] at h9; cases h9; cases ho
        · show Y k1 = .no
          rw [hY k1, if_neg]
          rintro ⟨cs, e, f, h9⟩
          rw [hk1] at h9; cases h9; cases ho
      rintro ex a' w' ⟨c2, s2, rfl, ga, low2, rel2, hm2, hq⟩
      cases ex with
      | normal =>
        obtain ⟨c3, w3, g3, low3, rel3, hm3⟩ := hq c2 a' rel2 hm2
        obtain ⟨k1, k3, k4, k5⟩ := fin (ga.g.trans g3) (fun id hid => (low3 id hid).trans (low2 id hid)) rel3
        rw [w3] at k1
        have hl3 := k1.same _ _ hl2 rfl
        have hk3 := k1.same _ _ hk2 rfl
        have hi4 : I (k + 1, s) c2.w := by rw [hIe]; exact ⟨c3.reY c'.Y, w3, k3, k4, k5⟩
        have he := run_endRound (P := P) none hl3
        refine ⟨_, _, he, rfl, hIo.putObj _ hi4 (by omega) hl3 rfl, ?_, (World.putObj_heap_other (by omega)).trans hk3⟩
        rw [hrec]
        exact World.putObj_heap_same (Array.getElem?_eq_some_iff.1 hl3).1
      | _ => exact hq.elim
    · rintro e W2 ⟨⟨v, rfl⟩, s, hi, hl, hk⟩
      have hE := run_endLoop (P := P) hl (by rw [hrec]; simp)
      rw [hrec] at hE
      refine ⟨none, _, hE, ?_⟩
      have hi2 := hIo.putObj (.loop { rec .ready none with state := .exhausted }) hi (by omega) hl rfl
      have hdd : (W2.putObj (c.w.heap.size + 1) (.loop { rec .ready none with state := .exhausted })).heap[c.w.heap.size]? = some (.deferred (some [])) := (World.putObj_heap_other (by omega)).trans hk
      rw [hrec] at hi2 hdd
      rw [hIe] at hi2
      obtain ⟨c', e1, h1, h2, h3⟩ := hi2
      exact ⟨c', _, e1, ⟨h1, [{ target := .collected c.w.heap.size, args := #[] }], rfl, by simp, fun d hd => by rw [List.mem_singleton] at hd; exact ⟨c.w.heap.size, hd, Nat.le_refl _, by rw [e1]; exact hdd⟩⟩, fun id hid => h2 id (Nat.lt_of_lt_of_le hid hm), ⟨h3.size, h3.env, h3.hr, h3.σ, h3.fresh⟩, Nat.le_trans hm (hFn _ _), hdone s⟩
/-- captured variables that are written no more are data; one is held on -/
theorem Weak.fnDataK {s : ASt} (t f : Nat) (caps caps' : List AV) (id0 : Nat) {o0 : AObj} (h0 : s.σ id0 = some o0) (h : s.env t = .fn f caps) (hl : caps'.length = caps.length)
    (hc : ∀ (j : Nat) x', caps'[j]? = some x' → ∃ x, caps[j]? = some x ∧ (x' = x ∨ ∃ id y e cells off, id ≠ id0 ∧ x = .op id off ∧ s.σ id = some (.row y e cells) ∧ x' = .fp y cells off)) :
    Weak N m s ⟨envOf [(t, .fn f caps')], heapOf [(id0, o0)], s.nx⟩ := by
  intro c a hr hms
  generalize hd : (⟨c.w, c.B, c.φ, heapOf [(id0, o0)], c.X, c.Y⟩ : Cx) = d
  have dw : d.w = c.w := by rw [← hd]
  have dB : d.B = c.B := by rw [← hd]
  have dX : d.X = c.X := by rw [← hd]
  have dY : d.Y = c.Y := by rw [← hd]
  have dσ : d.σ = heapOf [(id0, o0)] := by rw [← hd]
  have dφ : d.φ = c.φ := by rw [← hd]
  have c0 : c.σ id0 = some o0 := by rw [hr.σ]; exact h0
  have only : ∀ i o, d.σ i = some o → i = id0 ∧ o = o0 := fun i o hi => by
    rw [dσ] at hi
    simp only [heapOf] at hi
    split at hi
    · rename_i e; cases hi; exact ⟨e, rfl⟩
    · cases hi
  have hT : ∀ b, d.T b → c.φ id0 = some (some b) := by
    rintro b ⟨k, o, e1, e2⟩
    obtain ⟨rfl, rfl⟩ := only k o e1
    rw [← dφ]; exact e2
  have g : Grow c d := Still.grow ⟨dY, dX, dB, by rw [dw], by rw [dw], by rw [dw], by rw [dw]; exact Nat.le_refl _, fun b _ _ => by rw [dw], fun b hb => .inl ⟨id0, o0, c0, hT b hb⟩, fun b cs e f hb => ⟨cs, f, by rw [dw]; exact hb, rfl⟩⟩
  have nm : Names c d := fun k x hk => by rw [dφ]; exact hk
  refine ⟨d, dw, g, fun _ _ => by rw [dφ], ⟨hr.size, fun t' => ?_, ⟨fun j y' e' cs' hs => ?_, fun i i' b e1 e2 e3 e4 => ?_, by rw [dB, dw]; exact hr.hr.base, fun b hb => by rw [dX] at hb; rw [dw]; exact hr.hr.xlt b hb, hr.hr.gl.grow g⟩, dσ, fun k hk hne => by rw [dφ] at hne; exact hr.fresh k hk hne⟩, hms⟩
  · simp only [envOf]
    split
    · rename_i e
      subst e
      have hv := hr.env t'
      rw [h] at hv
      obtain ⟨us, hu, hv⟩ := hv
      rw [VRt_iff] at hv
      refine ⟨us, hu, VRt_iff.2 ⟨by omega, fun j x' hj => ?_⟩⟩
      obtain ⟨x, k1, k2⟩ := hc j x' hj
      obtain ⟨u, k3, k4⟩ := hv.2 j x k1
      refine ⟨u, k3, ?_⟩
      rcases k2 with rfl | ⟨id, y, e, cells, off, hne, rfl, q1, rfl⟩
      · exact k4.mono g nm
      · obtain ⟨b, e1, rfl, hcl⟩ := k4
        have q2 : c.σ id = some (.row y e cells) := by rw [hr.σ]; exact q1
        rcases hr.hr.row id y e cells q2 with ⟨g1, _⟩ | ⟨b', cs, g1, g2, g3, g4, g5⟩
        · rw [e1] at g1; cases g1
        · rw [e1] at g1; cases g1
          replace g2 := g2.cells hcl
          refine ⟨b, 0, by rw [Nat.zero_add], by rw [dw, Array.getElem?_eq_some_iff] at *; exact g2.1, ⟨by rw [dB]; exact g3.1, fun ht => hne (hr.hr.inj id id0 b (by rw [q2]; simp) (by rw [c0]; simp) e1 (hT b ht)), by rw [dX]; exact g3.2⟩, VRm_iff.2 fun j z hj => ?_⟩
          obtain ⟨q, k1, k2, k3⟩ := g5 _ _ hj
          exact ⟨q, by rw [dw, Nat.zero_add]; simp [World.cell?, g2, k1], k2, k3.mono g nm⟩
    · trivial
  · obtain ⟨rfl, e2⟩ := only j _ hs
    rcases hr.hr.row j y' e' cs' (by rw [c0, e2]) with g1 | ⟨b', cs, g1, g2, g3, g4, g5⟩
    · exact .inl (by rw [dφ]; exact g1)
    · refine .inr ⟨b', cs, by rw [dφ]; exact g1, by rw [dw]; exact g2, by rw [dB, dX]; exact g3, g4, fun i x hi => ?_⟩
      obtain ⟨q, k1, k2, k3⟩ := g5 i x hi
      exact ⟨q, k1, k2, k3.mono g nm⟩
  · obtain ⟨o1, ho1⟩ := Option.ne_none_iff_exists'.1 e1
    obtain ⟨o2, ho2⟩ := Option.ne_none_iff_exists'.1 e2
    exact (only i o1 ho1).1.trans (only i' o2 ho2).1.symm
end Go.Proofs.YtonglhkiobibgaaGreatDoor
namespace Go.Proofs.YtonglhkiobibgaaGreatDoor
open Go.RowKit Go.Shelf
attribute [local go_sem] Oper.semAt_some
set_option maxRecDepth 100000
/-- Index of one octet, of any string -/
theorem indexI_walk (s : ByteArray) (c : UInt8) (w : World) :
    Calls Tryz.prog 281 #[.string s, .string (ByteArray.mk #[c])] w fun e w' => e = .returned (.int .i64 (Lib.indexByte s.data.toList c)) ∧ w' = w := by
  by_cases hne : [c] = s.toList
  · have hne' : ([c] == s.toList) = true := by simpa using hne
    have hz : (ByteArray.mk #[c]).size = 1 := rfl
    have hg : (ByteArray.mk #[c])[0]? = some c := rfl
    have h9 : Lib.indexByte s.data.toList c = 0 := by
      rw [ByteArray.toList_eq] at hne
      rw [← hne]
      simp [Lib.indexByte]
    clear hne
    have H9 := Lib.hid h9
    clear h9
    go_enter Tryz.func281, Tryz.ntmps281
    go_wp2_with (go_at_call 298; refine (indexL_walk s c _).mono ?_; rintro e w' ⟨rfl, rfl⟩)
    all_goals go_ret
    all_goals refine ⟨?_, rfl⟩
    all_goals first | rfl | (rw [H9.out]; rfl)
  · exact index_walk s c hne w
theorem indexA_walk (s : ByteArray) (c : UInt8) (w : World) :
    Calls Tryz.prog 251 #[.string s, .string (ByteArray.mk #[c])] w fun e w' => e = .returned (.int .i64 (Lib.indexByte s.data.toList c)) ∧ w' = w := by
  go_enter Tryz.func251, Tryz.ntmps251
  go_wp2_with (go_at_call 281; refine (indexI_walk s c _).mono ?_; rintro e w' ⟨rfl, rfl⟩)
  go_ret
  exact ⟨rfl, rfl⟩
def strAt (v : Option Value) : Nat := match v with | some (.string r) => r.size | _ => 0
set_option maxHeartbeats 4000000 in
theorem splitW_in (l : Nat) (p1 p2 p3 : Addr) (c : UInt8) (s0 : ByteArray) (Ps : List ByteArray) (hP : Ps = partsF c s0.size s0) (hb : s0.size ≤ 140737488355328) (Kp : World → Prop)
    (hKp : ∀ W, Kp W → W.cell? p1 = some (.string (ByteArray.mk #[c])) ∧ W.cell? p3 = some (.int .i64 0)) (J : Nat → ByteArray → World → Prop) (W : World)
    (hset : ∀ k s s' W1, J k s W1 → J k s' (W1.setCell p2 (.string s'))) (hdr : ∀ k s W1, J k s W1 → J k s W1.drew)
    (hcell : ∀ k s W1, J k s W1 → Kp W1 ∧ W1.cell? p2 = some (.string s) ∧ W1.frozen? p2 = false)
    (hY : ∀ k s W1, k < Ps.length → J k s W1 → YieldAt Fence.wide 1 Tryz.prog l #[.string ((Ps[k]?).getD s0)] W1 fun e W' => e = .returned (.bool true) ∧ J (k + 1) s W') (hj : J 0 s0 W) :
    CallsIn Fence.wide 2 Tryz.prog 249 #[.func (.yield l) #[] #[], .pointer (some p1), .pointer (some p2), .pointer (some p3)] W fun e W' => (∃ v, e = .returned v) ∧ ∃ s, J Ps.length s W' := by
  have HY := Lib.hid hY
  have Hs := Lib.hid hset
  have Hd := Lib.hid hdr
  have Hj := Lib.hid hj
  have Hc : Hid (∀ k s W1, J k s W1 → W1.cell? p1 = some (.string (ByteArray.mk #[c])) ∧ W1.cell? p2 = some (.string s) ∧ W1.frozen? p2 = false ∧ W1.cell? p3 = some (.int .i64 0)) := Lib.hid fun k s W1 h => by
    obtain ⟨h1, h2, h3⟩ := hcell k s W1 h
    exact ⟨(hKp W1 h1).1, h2, h3, (hKp W1 h1).2⟩
  have HP := Lib.hid hP
  obtain ⟨h1, h2, _, h3⟩ := Hc.out _ _ _ hj
  clear hY hset hdr hj hcell hP hKp
  have hz : (ByteArray.mk #[c]).size = 1 := rfl
  refine callsIn_of_wp Tryz.func249 rfl trivial ?_ rfl
  simp only [Tryz.ntmps249, List.size_toArray, List.length_cons, List.length_nil, Nat.reduceAdd, Nat.reduceSub, Array.replicate_succ, Array.replicate_zero, List.push_toArray, List.append_toArray, List.nil_append, List.cons_append]
  gi_wp2
  clear h1 h2 h3
  gi_loopw [7] (fun _ wr => ∃ k r n, Hid (J k r wr) ∧ Hid (r.size ≤ n ∧ n ≤ s0.size) ∧ Hid (partsF c n r = Ps.drop k)) (fun _ wr => strAt (wr.cell? p2))
  case atStart => exact ⟨0, s0, s0.size, Hj, Lib.hid ⟨Nat.le_refl _, Nat.le_refl _⟩, Lib.hid (by rw [List.drop_zero]; exact HP.out.symm)⟩
  case round =>
    obtain ⟨k, r, n, HJs, Hn, HPs⟩ := hrel
    obtain ⟨y1, y2, y4, y3⟩ := Hc.out _ _ _ HJs.out
    gi_wp2_with fail
    refine ⟨trivial, (callsIn_wide.2 (indexA_walk r c _)).mono ?_⟩
    rintro e w5 ⟨rfl, rfl⟩
    by_cases hx : Lib.indexByte r.data.toList c = -1
    · rw [hx]
      have hl : Ps[k]? = some r ∧ Ps.length = k + 1 := by
        have h9 := HPs.out
        rw [partsF_one hx] at h9
        have e1 : Ps[k]? = (Ps.drop k)[0]? := by simp
        rw [e1, ← h9]
        have e2 := congrArg List.length h9
        simp at e2
        exact ⟨rfl, by omega⟩
      have HL := Lib.hid hl
      clear hl hx
      gi_wp2_with fail
      obtain ⟨fn, tmps, assign, body, hy, hR⟩ := HY.out k r w5 (by have := HL.out.2; omega) HJs.out
      rw [HL.out.1] at hy
      dsimp only [Option.getD_some] at hy
      rw [hy, Oper.uponIn_round]
      refine ⟨fun h => (by cases h), hR.mono ?_⟩
      rintro e W3 ⟨rfl, hJ3⟩
      gi_wp2_with fail
      go_end0
      exact ⟨⟨_, rfl⟩, r, by rw [HL.out.2]; exact hJ3⟩
    · obtain ⟨k1, k2⟩ := idxB_lt _ _ hx
      rw [size_len] at k2
      obtain ⟨i, hi⟩ := Int.eq_ofNat_of_zero_le k1
      obtain ⟨m, hnm, hm, hps⟩ := partsF_more Hn.out.1 hx
      rw [hi] at hps hm k2
      rw [Int.toNat_natCast] at hps hm k2
      rw [hi]
      have hl : Ps[k]? = some (r.extract 0 i) ∧ partsF c m (r.extract (i + 1) r.size) = Ps.drop (k + 1) := by
        have h9 := HPs.out
        rw [hps] at h9
        have e1 : Ps[k]? = (Ps.drop k)[0]? := by simp
        rw [e1, ← h9]
        refine ⟨rfl, ?_⟩
        rw [← List.drop_drop, ← h9]; rfl
      have HL := Lib.hid hl
      have HM := Lib.hid hm
      have HK2 := Lib.hid k2
      have HNM := Lib.hid hnm
      have hib : i ≤ 140737488355328 := by have := Hn.out; omega
      have e0 : ∀ x : Int, Go.RowKit.wrap64 x = IntKind.i64.wrap x := fun x => by simp [Go.RowKit.wrap64, IntKind.wrap_i64]
      have e1 : Go.RowKit.wrap64 (i : Int) = (i : Int) := by rw [e0, wrap64 (by omega)]
      have e2 : Go.RowKit.wrap64 ((i : Int) + 1) = (i : Int) + 1 := by rw [e0, wrap64 (by omega)]
      have e3 : ((i : Int) + 1).toNat = i + 1 := by omega
      have hir : i ≤ r.size := by omega
      have hir1 : i + 1 ≤ r.size := by omega
      clear hl hm hps hnm hx k1 hib e0
      gi_wp2_with fail
      obtain ⟨fn, tmps, assign, body, hy, hR⟩ := HY.out k r w5 ((List.getElem?_eq_some_iff.1 HL.out.1).1) HJs.out
      rw [HL.out.1] at hy
      dsimp only [Option.getD_some] at hy
      rw [hy, Oper.uponIn_round]
      refine ⟨fun h => (by cases h), hR.mono ?_⟩
      rintro e W3 ⟨rfl, hJ3⟩
      obtain ⟨z1, z2, z4, z3⟩ := Hc.out _ _ _ hJ3
      have HJ3 := Lib.hid hJ3
      have Hy2 := Lib.hid y2
      clear hJ3 y1 y2 y3 y4 hR hy
      gi_wp2_with fail
      have HS := Hs.out (k + 1) r (r.extract (i + 1) r.size) W3 HJ3.out
      have hc2 := (Hc.out _ _ _ HS).2.1
      refine ⟨⟨k + 1, r.extract (i + 1) r.size, m, Lib.hid HS, Lib.hid ⟨HM.out, by have := Hn.out; have := HNM.out; omega⟩, Lib.hid HL.out.2⟩, ?_⟩
      rw [hc2, Hy2.out]
      show (r.extract (i + 1) r.size).size < r.size
      rw [ByteArray.size_extract]
      have := HK2.out
      omega
theorem splitW_iter (s : ByteArray) (c : UInt8) (ps : List ByteArray) (hps : ps = partsF c s.size s) (hb : s.size ≤ 140737488355328) :
    IterW Tryz.prog 249 [.fp true [.v (.string (ByteArray.mk #[c]))] 0, .op 1 0, .fp true [.v (.int .i64 0)] 0] 1 s (ps.map fun x => [.v (.string x)]) := by
  refine ⟨by rfl, fun x lb b hr hv hφ => ?_⟩
  simp only [VRt] at hv
  obtain ⟨u1, us, rfl, h1, u2, us2, rfl, h2, u3, us3, rfl, h3, rfl⟩ := hv
  rw [VR] at h1 h3
  obtain ⟨b1, o1, rfl, hlt1, ho1, hm1⟩ := h1
  obtain ⟨b2, hφ2, rfl, _⟩ := h2
  obtain ⟨b3, o3, rfl, hlt3, ho3, hm3⟩ := h3
  rw [hφ] at hφ2
  cases hφ2
  simp only [VRm, Nat.add_zero] at hm1 hm3
  obtain ⟨⟨v1, hc1, _, hv1⟩, _⟩ := hm1
  obtain ⟨⟨v3, hc3, _, hv3⟩, _⟩ := hm3
  obtain rfl : v1 = .string (ByteArray.mk #[c]) := hv1
  obtain rfl : v3 = .int .i64 0 := hv3
  refine ⟨fun k => [.string ((ps[k]?).getD s)], fun k hk => ?_, ?_⟩
  · have hk' : k < ps.length := by simpa using hk
    rw [List.getElem_map]
    simp only [VRt, List.getElem?_eq_getElem hk', Option.getD_some]
    exact ⟨_, _, rfl, rfl, rfl⟩
  · intro l J W hset hdr hcell hY hj
    rw [List.length_map] at hY ⊢
    refine splitW_in l ⟨b1, o1, none⟩ ⟨b, 0, none⟩ ⟨b3, o3, none⟩ c s ps hps hb _ (fun W' hK => ⟨?_, ?_⟩) J W hset hdr hcell hY hj
    · exact (World.cell?_of_block (hK b1 hlt1 ho1.2.1 (fun h => absurd h ho1.2.2))).trans hc1
    · exact (World.cell?_of_block (hK b3 hlt3 ho3.2.1 (fun h => absurd h ho3.2.2))).trans hc3
end Go.Proofs.YtonglhkiobibgaaGreatDoor
namespace Go.Proofs.YtonglhkiobibgaaGreatDoor
open Go.RowKit
set_option maxRecDepth 100000
abbrev aSeqW (id : Nat) (p : ByteArray) : AV := .fn 249 [.fp true [.v (.string p)] 0, .op id 0, .fp true [.v (.int .i64 0)] 0]
theorem splitSeqL_row (s p : ByteArray) (nb : Nat) : ASound Tryz.prog 218 [.v (.string s), .v (.string p), .v (.int .i64 0)] nb (.ret (aSeqW nb p) [(nb, some (.row true 9 [.v (.string s)]))]) := by
  refine ok_218.sound (by simp) ⟨trivial, trivial, trivial, trivial⟩ ?_
  simp only [ac_218, TT, ↓reduceIte, Nat.reduceEqDiff, Nat.reduceAdd, Nat.reduceMul, reduceCtorEq, Nat.reduceLeDiff]
  refine Ends.weak (Weak.fnDataK 6 249 [.op 100000 0, .op 0 0, .op 200000 0] [.fp true [.v (.string p)] 0, .op 0 0, .fp true [.v (.int .i64 0)] 0] 0 (o0 := .row true 9 [.v (.string s)]) (by simp [ET]) (by simp [s_envOf]) rfl ?_)
    (Ends.rows1 (i := 0) (r0 := aSeqW 0 p) (.inr rfl) (by simp [ET]) rfl ⟨trivial, trivial⟩ (by simp [Al, AlL]) (by simp [ren, renL, rn]))
  intro j x' hj
  match j, hj with
  | 0, hj => cases hj; exact ⟨_, rfl, .inr ⟨100000, true, 9, [.v (.string p)], 0, by decide, rfl, by simp [WT], rfl⟩⟩
  | 1, hj => cases hj; exact ⟨_, rfl, .inl rfl⟩
  | 2, hj => cases hj; exact ⟨_, rfl, .inr ⟨200000, true, 3, [.v (.int .i64 0)], 0, by decide, rfl, by simp [WT], rfl⟩⟩
  | j + 3, hj => simp at hj
theorem splitSeq_row (s p : ByteArray) (nb : Nat) : ASound Tryz.prog 169 [.v (.string s), .v (.string p)] nb (.ret (aSeqW nb p) [(nb, some (.row true 9 [.v (.string s)]))]) := by
  refine ok_169.sound (by simp) ⟨trivial, trivial, trivial⟩ ?_
  simp only [ac_169, TT, ↓reduceIte, Nat.reduceEqDiff, Nat.reduceAdd, Nat.reduceMul, reduceCtorEq, Nat.reduceLeDiff]
  refine ⟨_, splitSeqL_row s p _, ?_⟩
  simp only [TT, ↓reduceIte, Nat.reduceEqDiff, Nat.reduceAdd, Nat.reduceMul, reduceCtorEq, Nat.reduceLeDiff]
  exact Ends.rows1 (i := 300000) (r0 := aSeqW 300000 p) (.inr rfl) (by simp [ET]) (by simp [ET]) ⟨trivial, trivial⟩ (by simp [Al, AlL]) (by simp [ren, renL, rn])
theorem cutPrefixN_spec (s p : ByteArray) (nb : Nat) (h : ¬ (p.size ≤ s.size ∧ s.extract 0 p.size = p)) : ASound Tryz.prog 168 [.v (.string s), .v (.string p)] nb (.ret (.tup [.v (.string s), .v (.bool false)]) []) := by
  have hL : ∀ nb, ASound Tryz.prog 217 [.v (.string s), .v (.string p)] nb (.ret (.tup [.v (.string s), .v (.bool false)]) []) := fun nb => by
    refine ok_217.sound (by simp) ⟨trivial, trivial, trivial⟩ ?_
    have hp := fun nb => hasPrefix_spec s p nb
    rw [decide_eq_false h] at hp
    simp only [ac_217, TT, ↓reduceIte, Nat.reduceEqDiff, Nat.reduceAdd, Nat.reduceMul, reduceCtorEq, Nat.reduceLeDiff]
    refine ⟨_, hp _, ?_⟩
    simp only [TT, ↓reduceIte, Nat.reduceEqDiff, Nat.reduceAdd, Nat.reduceMul, reduceCtorEq, Nat.reduceLeDiff]
    exact Ends.data (.inr rfl) (by simp [ET]) ⟨trivial, trivial, trivial⟩
  refine ok_168.sound (by simp) ⟨trivial, trivial, trivial⟩ ?_
  simp only [ac_168, TT, ↓reduceIte, Nat.reduceEqDiff, Nat.reduceAdd, Nat.reduceMul, reduceCtorEq, Nat.reduceLeDiff]
  refine ⟨_, hL _, ?_⟩
  simp only [TT, ↓reduceIte, Nat.reduceEqDiff, Nat.reduceAdd, Nat.reduceMul, reduceCtorEq, Nat.reduceLeDiff]
  exact Ends.data (.inr rfl) (by simp [ET]) ⟨trivial, trivial, trivial⟩
theorem odL_S : ∀ l : List ByteArray, odL (eS l) = eS l
  | [] => rfl
  | x :: l => by
    show od _ :: odL (eS l) = _
    rw [odL_S l]; rfl
theorem namedR_spec (l : List ByteArray) (y : Bool) (id nb : Nat) (hid : id < nb) (hl : l.length ≤ 140737488355328) :
    ASound Tryz.prog 170 [.os id 0 l.length 1] nb (rowsM [(id, y, 9, eS l)] (.ret (.v (.int .i64 (namedL l))) [])) := by
  refine ASound.borrowD 0 [] [(id, y, 9, eS l)] ?_ (by simp) trivial (by simp)
  have e : boDL 1 [(id, y, 9, eS l)] [.os id 0 l.length 1] = [fS false l] := by
    simp [boDL, boWL, boW, cellsAt, fS, tk_S, odL_S]
  rw [e]
  exact named_spec false l nb hl
theorem eS_one (x : ByteArray) : eS [x] = [.v (.string x)] := rfl
theorem eS_app (l m : List ByteArray) : eS (l ++ m) = eS l ++ eS m := by simp [eS]
/-- what has come behind k parts -/
abbrev elsK (ps : List ByteArray) (k : Nat) : List ByteArray := (ps.take k).filter (fun s => decide (s ≠ ByteArray.mk #[]))
theorem elsK_s {ps : List ByteArray} {k : Nat} {x : ByteArray} (h : ps[k]? = some x) : elsK ps (k + 1) = if x = ByteArray.mk #[] then elsK ps k else elsK ps k ++ [x] := by
  unfold elsK
  rw [take_snoc h, List.filter_append]
  by_cases hx : x = ByteArray.mk #[]
  · rw [if_pos hx]; simp [hx]
  · rw [if_neg hx]; simp [hx]
abbrev h_sq (ps : List ByteArray) (k : Nat) (r : ByteArray) : List (Nat × AObj) := [(0, .row true 45 [.os 2 0 (elsK ps k).length 1]), (1, .row true 9 [.v (.string r)]), (2, .row true 9 (eS (elsK ps k)))]
abbrev L_sw (ps : List ByteArray) (r : ByteArray) : ASt := ⟨envOf [(6, .op 0 0), (20, aSeqW 1 (ByteArray.mk #[47]))], heapOf (h_sq ps 0 r), 3⟩
set_option maxHeartbeats 2000000 in
theorem split_spec (s : ByteArray) (nb : Nat) : ASound Tryz.prog 110 [.v (.string s)] nb (.ret (.tup [fS true (splitP s).1, .v (.int .i64 (splitP s).2)]) []) := by
  refine ok_110.sound (by simp) ⟨trivial, trivial⟩ ?_
  have hnil : ImpL [.v (.slice none 0 0), .v (.int .i64 5)] [fS true [], .v (.int .i64 5)] := ⟨Imp.nil true, Imp.refl _, trivial⟩
  by_cases hz : 128 < s.size
  · have g1 : ((128 : Int) < (s.size : Int)) = True := eq_true (by omega)
    have e : splitP s = ([], 5) := if_pos hz
    rw [e]
    simp only [ac_110, g1, decide_true, TT, ↓reduceIte, Nat.reduceEqDiff, Nat.reduceAdd, Nat.reduceMul, reduceCtorEq, Nat.reduceLeDiff]
    exact Ends.imp (.inr rfl) (r0 := .tup [.v (.slice none 0 0), .v (.int .i64 5)]) (by simp [ET]) ⟨trivial, trivial, trivial⟩ (Imp.tupL ⟨Imp.nil true, Imp.refl _, trivial⟩)
  have g1 : ((128 : Int) < (s.size : Int)) = False := eq_false (by omega)
  have hz1 : (ByteArray.mk #[47]).size = 1 := rfl
  by_cases hp : 1 ≤ s.size ∧ s.extract 0 1 = ByteArray.mk #[47]
  · have e : splitP s = if namedL (namesL (s.data.toList.drop 1)) = 0 then (namesL (s.data.toList.drop 1), 0) else ([], namedL (namesL (s.data.toList.drop 1))) := by
      rw [splitP, if_neg hz, if_pos hp]
    rw [e]
    have hc := fun nb => cutPrefix_spec s (ByteArray.mk #[47]) nb hp
    rw [hz1] at hc
    generalize hr : s.extract 1 s.size = r at hc
    have hrs : r.size ≤ 128 := by rw [← hr, ByteArray.size_extract]; omega
    have hrl : s.data.toList.drop 1 = r.data.toList := by
      rw [← hr, ext_list, List.take_of_length_le (by rw [List.length_drop, size_len]; exact Nat.le_refl _)]
    obtain ⟨ps, hps⟩ : ∃ ps, ps = partsF 47 r.size r := ⟨_, rfl⟩
    have hnm : namesL (s.data.toList.drop 1) = elsK ps ps.length := by
      rw [hrl, namesL, elsK, List.take_length, hps, partsF_L 47 r.size r (Nat.le_refl _)]
    have hpl : ps.length ≤ 129 := by
      have : ∀ (n : Nat) (t : ByteArray), (partsF 47 n t).length ≤ n + 1 := by
        intro n
        induction n with
        | zero => intro t; simp [partsF]
        | succ n ih => intro t; rw [partsF]; split <;> simp; exact ih _
      rw [hps]; have := this r.size r; omega
    have hel : (elsK ps ps.length).length ≤ 129 := Nat.le_trans (List.length_filter_le _ _) (by rw [List.take_length]; exact hpl)
    rw [hnm]
    have hq := fun nb => splitSeq_row r (ByteArray.mk #[47]) nb
    simp only [ac_110, g1, decide_false, TT, ↓reduceIte, Nat.reduceEqDiff, Nat.reduceAdd, Nat.reduceMul, reduceCtorEq, Nat.reduceLeDiff]
    refine ⟨_, hc _, ?_⟩
    simp only [Bool.not_true, TT, ↓reduceIte, Nat.reduceEqDiff, Nat.reduceAdd, Nat.reduceMul, reduceCtorEq, Nat.reduceLeDiff]
    refine ⟨_, hq _, ?_⟩
    simp only [TT, ↓reduceIte, Nat.reduceEqDiff, Nat.reduceAdd, Nat.reduceMul, reduceCtorEq, Nat.reduceLeDiff]
    refine AWc.weak (s' := L_sw ps r) (Weak.trans (Weak.virtC 9 1 (l := [(6, .op 1400000 0), (20, aSeqW 1600000 (ByteArray.mk #[47]))]) (h := [(1400000, .row true 45 [.os 1700000 0 0 1]), (1600000, .row true 9 [.v (.string r)])]) ?_ ?_) (Weak.calc [(1400000, 0), (1600000, 1), (1700000, 2)] (by decide) ?_ ?_)) ?_
    · simp [WT]
    · simp [WT]
    · simp [WT]
    · simp [WT, eS, elsK]
    refine AWc.rangeW (L := ps.map fun x => [.v (.string x)]) 2 (by omega) 1 (by decide) r (by simp [WT, evA]) (splitW_iter r 47 ps hps (by omega)) rfl (fun l hl => ?_) (AlN.env (by simp [AlL, Al])) true 9 (by decide)
      (fun k q => (heapOf (h_sq ps k q), 3)) rfl (fun _ _ => (by decide : 2 ≤ 3)) (fun k q => NoM.of (by rintro i y e cells h; simp at h; rcases h with ⟨_, _, rfl, _⟩ | ⟨_, _, rfl, _⟩ | ⟨_, _, rfl, _⟩ <;> decide)) (fun k q => rfl) (fun k q q' => ⟨?_, rfl⟩) (fun k q hk => ?_) (fun q => ?_)
    · simp at hl; obtain ⟨x, _, rfl⟩ := hl; exact ⟨AlNL.of ⟨trivial, trivial⟩, rfl⟩
    · funext i
      simp only [heapOf, app]
      by_cases h1 : i = 1
      · subst h1; rfl
      · by_cases h0 : i = 0
        · subst h0; rfl
        · simp [h0, h1]
    · have hk' : k < ps.length := by simpa using hk
      obtain ⟨x, hx⟩ : ∃ x, ps[k]? = some x := ⟨_, List.getElem?_eq_getElem hk'⟩
      have hi : (ps.map fun x => [AV.v (.string x)])[k] = [.v (.string x)] := by
        rw [List.getElem_map]; rw [List.getElem?_eq_getElem hk'] at hx; cases hx; rfl
      rw [hi]
      have hes := elsK_s hx
      by_cases hx0 : x = ByteArray.mk #[]
      · rw [if_pos hx0] at hes
        subst hx0
        simp only [L_sw, bindP, mvE, strOp, decide_true, Bool.not_true, TT, ↓reduceIte, Nat.reduceEqDiff, Nat.reduceAdd, Nat.reduceMul, reduceCtorEq, Nat.reduceLeDiff]
        show Weak _ _ _ ⟨fun _ => .any, heapOf (h_sq ps (k + 1) q), 3⟩
        simp only [h_sq, hes]
        show Weak 34 2 _ ⟨envOf [], _, 3⟩
        refine Weak.calc [(0, 0), (1, 1), (2, 2)] (by decide) ?_ ?_ <;> simp [WT, al_S, ren_S]
      · rw [if_neg hx0] at hes
        have hne2 : (x = ByteArray.mk #[]) = False := eq_false hx0
        have hm : (((elsK ps k).length + 1) * 16 ≤ 140737488355328) = True := by
          refine eq_true ?_
          have h9 : (elsK ps k).length ≤ (ps.take k).length := List.length_filter_le _ _
          rw [List.length_take] at h9
          omega
        simp only [L_sw, bindP, mvE, strOp, hne2, len_S, hm, decide_false, Bool.not_false, if_true, and_self, TT, ↓reduceIte, Nat.reduceEqDiff, Nat.reduceAdd, Nat.reduceMul, reduceCtorEq, Nat.reduceLeDiff]
        show Weak _ _ _ ⟨fun _ => .any, heapOf (h_sq ps (k + 1) q), 3⟩
        simp only [h_sq, hes]
        show Weak 34 2 _ ⟨envOf [], _, 3⟩
        refine Weak.calc [(0, 0), (1, 1), (500003, 2)] (by decide) ?_ ?_ <;> simp [WT, eS_app, eS_one, al_S, ren_S]
    · simp only [List.length_map]
      have hm := fun nb hid => namedR_spec (elsK ps ps.length) true 2 nb hid (by omega)
      simp only [rowsM] at hm
      simp only [L_sw, h_sq]
      generalize elsK ps ps.length = els at hm
      simp only [TT, ↓reduceIte, Nat.reduceEqDiff, Nat.reduceAdd, Nat.reduceMul, reduceCtorEq, Nat.reduceLeDiff]
      refine ⟨_, hm _ (by decide), ?_⟩
      by_cases h0 : namedL els = 0
      · rw [if_pos h0]
        simp only [h0, decide_true, Bool.not_true, TT, ↓reduceIte, Nat.reduceEqDiff, Nat.reduceAdd, Nat.reduceMul, reduceCtorEq, Nat.reduceLeDiff]
        refine Ends.weak (Weak.freezeC 2 rfl (l := [(2, .fs true (eS els) els.length), (3, .v (.int .i64 0))]) (h := []) ?_ ?_) (Ends.data (.inr rfl) (by simp [ET, fS]) ⟨al_S els, trivial, trivial⟩)
        · simp [WT, tk_S]
        · trivial
      · rw [if_neg h0]
        simp only [decide_eq_false h0, Bool.not_false, TT, ↓reduceIte, Nat.reduceEqDiff, Nat.reduceAdd, Nat.reduceMul, reduceCtorEq, Nat.reduceLeDiff]
        exact Ends.imp (.inr rfl) (r0 := .tup [.v (.slice none 0 0), .v (.int .i64 (namedL els))]) (by simp [ET]) ⟨trivial, trivial, trivial⟩ (Imp.tupL ⟨Imp.nil true, Imp.refl _, trivial⟩)
  · have e : splitP s = ([], 106) := by rw [splitP, if_neg hz, if_neg hp]
    rw [e]
    have hc := fun nb => cutPrefixN_spec s (ByteArray.mk #[47]) nb hp
    simp only [ac_110, g1, decide_false, TT, ↓reduceIte, Nat.reduceEqDiff, Nat.reduceAdd, Nat.reduceMul, reduceCtorEq, Nat.reduceLeDiff]
    refine ⟨_, hc _, ?_⟩
    simp only [Bool.not_false, TT, ↓reduceIte, Nat.reduceEqDiff, Nat.reduceAdd, Nat.reduceMul, reduceCtorEq, Nat.reduceLeDiff]
    exact Ends.imp (.inr rfl) (r0 := .tup [.v (.slice none 0 0), .v (.int .i64 106)]) (by simp [ET]) ⟨trivial, trivial, trivial⟩ (Imp.tupL ⟨Imp.nil true, Imp.refl _, trivial⟩)
end Go.Proofs.YtonglhkiobibgaaGreatDoor
namespace Go.Proofs.YtonglhkiobibgaaGreatDoor
open Go.RowKit
variable {P : Program} {N m : Nat}
theorem Weak.ifcData {s : ASt} (t ty id : Nat) {y : Bool} {e off : Nat} {cells : List AV} (h : s.env t = .ifc ty (.op id off)) (hs : s.σ id = some (.row y e cells)) (hp : PuL cells) :
    Weak N m s ⟨envOf [(t, .ifc ty (.fp y cells off))], heapOf [], s.nx⟩ := by
  intro c a hr hms
  generalize hd : (⟨c.w, c.B, c.φ, heapOf [], c.X, c.Y⟩ : Cx) = d
  have dw : d.w = c.w := by rw [← hd]
  have dB : d.B = c.B := by rw [← hd]
  have dX : d.X = c.X := by rw [← hd]
  have dY : d.Y = c.Y := by rw [← hd]
  have dσ : d.σ = heapOf [] := by rw [← hd]
  have dφ : d.φ = c.φ := by rw [← hd]
  have hT : ∀ b, ¬ d.T b := by rintro b ⟨k, o, e1, e2⟩; rw [dσ] at e1; cases e1
  have g : Grow c d := Still.grow ⟨dY, dX, dB, by rw [dw], by rw [dw], by rw [dw], by rw [dw]; exact Nat.le_refl _, fun b _ _ => by rw [dw], fun b hb => (hT b hb).elim, fun b cs e f hb => ⟨cs, f, by rw [dw]; exact hb, rfl⟩⟩
  have nm : Names c d := fun k x hk => by rw [dφ]; exact hk
  refine ⟨d, dw, g, fun _ _ => by rw [dφ], ⟨hr.size, fun t' => ?_, ⟨fun j y' e' cs' hs => (by rw [dσ] at hs; cases hs), fun i i' b e1 e2 e3 e4 => by rw [dσ] at e1; exact absurd rfl e1, by rw [dB, dw]; exact hr.hr.base, fun b hb => by rw [dX] at hb; rw [dw]; exact hr.hr.xlt b hb, hr.hr.gl.grow g⟩, dσ, fun k hk hne => by rw [dφ] at hne; exact hr.fresh k hk hne⟩, hms⟩
  simp only [envOf]
  split
  · rename_i e
    subst e
    have hv := hr.env t'
    rw [h] at hv
    obtain ⟨v, hu, hv⟩ := hv
    refine ⟨v, hu, ?_⟩
    obtain ⟨b, e1, rfl, hcl⟩ := hv
    rcases hr.hr.row id y e cells (by rw [hr.σ]; exact hs) with ⟨g1, _⟩ | ⟨b', cs, g1, g2, g3, g4, g5⟩
    · rw [e1] at g1; cases g1
    · rw [e1] at g1; cases g1
      replace g2 := g2.cells hcl
      refine ⟨b, 0, by rw [Nat.zero_add], by rw [dw, Array.getElem?_eq_some_iff] at *; exact g2.1, ⟨by rw [dB]; exact g3.1, hT b, by rw [dX]; exact g3.2⟩, VRm_iff.2 fun j z hj => ?_⟩
      obtain ⟨q, k1, k2, k3⟩ := g5 _ _ hj
      exact ⟨q, by rw [dw, Nat.zero_add]; simp [World.cell?, g2, k1], k2, k3.mono g nm⟩
  · trivial
end Go.Proofs.YtonglhkiobibgaaGreatDoor
namespace Go.Proofs.YtonglhkiobibgaaGreatDoor
open Go.RowKit Go.Extern.Stop Go.Stop Go.Extern
theorem tf_valueOf155 (t : Addr) (w : World) : (ReflectliteValue.unpack (.iface 199 (.pointer (some t)))).run Tryz.prog w
    = .ok (.agg #[.pointer (some ⟨4, 199, none⟩), .pointer (some ⟨w.heap.size, 0, none⟩), .int .u64 150]) (w.alloc (.cells #[.pointer (some t)] 199)) := by kernel_rfl
theorem tf_type155 (a : Addr) (w : World) : (ReflectliteValue.methodAny (ReflectliteValue.valueError "reflectlite.Value.Type" 0) (fun t _ _ _ => ReflectliteType.toType t) #[.agg #[.pointer (some ⟨4, 199, none⟩), .pointer (some a), .int .u64 150]]).run Tryz.prog w
    = .ok (.iface 342 (.agg #[.pointer (some ⟨4, 199, none⟩)])) w := by kernel_rfl
theorem tf_kind155 (w : World) : ((ReflectliteType.abiMethod fun t => (fun a : Nat => Value.int IntKind.u8 (a : Int)) <$> Rtype.kind t) #[.pointer (some ⟨4, 199, none⟩)]).run Tryz.prog w = .ok (.int .u8 22) w := by kernel_rfl
theorem tf_kind153 (w : World) : ((ReflectliteType.abiMethod fun t => (fun a : Nat => Value.int IntKind.u8 (a : Int)) <$> Rtype.kind t) #[.pointer (some ⟨4, 195, none⟩)]).run Tryz.prog w = .ok (.int .u8 22) w := by kernel_rfl
theorem tf_parts155 (a : Addr) (w : World) : (ReflectliteValue.parts (.agg #[.pointer (some ⟨4, 199, none⟩), .pointer (some a), .int .u64 150])).run Tryz.prog w = .ok (some (199, a, 150)) w := by kernel_rfl
theorem tf_isNil155 (a p : Addr) (W : World) (ha : W.cell? a = some (.pointer (some p))) :
    (ReflectliteValue.method (ReflectliteValue.valueError "reflectlite.Value.IsNil" 0) ReflectliteValue.isNil #[.agg #[.pointer (some ⟨4, 199, none⟩), .pointer (some a), .int .u64 150]]).run Tryz.prog W = .ok (.bool false) W := by
  rw [tz_rlm]
  simp only [Sem.run_bind, tf_parts155, Result.andThen]
  simp [ReflectliteValue.isNil, loadVar, isAgg, underlying, Tryz.underlying199, ha, Result.andThen]
theorem tf_elem155 (w : World) : (ReflectliteType.method ReflectliteType.elem #[.agg #[.pointer (some ⟨4, 199, none⟩)]]).run Tryz.prog w = .ok (.iface 342 (.agg #[.pointer (some ⟨4, 195, none⟩)])) w := by kernel_rfl
theorem tf_implements153 (w : World) : (ReflectliteType.relation "Implements" ReflectliteType.implements_ #[.agg #[.pointer (some ⟨4, 195, none⟩)], .iface 342 (.agg #[.pointer (some ⟨4, 102, none⟩)])]).run Tryz.prog w = .ok (.bool true) w := by kernel_rfl
theorem tf_typeOf153 (v : Value) (w : World) : (ReflectliteType.typeOf #[.iface 195 v]).run Tryz.prog w = .ok (.iface 342 (.agg #[.pointer (some ⟨4, 195, none⟩)])) w := by kernel_rfl
theorem tf_assignable153 (w : World) : (ReflectliteType.relation "AssignableTo" ReflectliteType.assignableTo #[.agg #[.pointer (some ⟨4, 195, none⟩)], .iface 342 (.agg #[.pointer (some ⟨4, 195, none⟩)])]).run Tryz.prog w = .ok (.bool true) w := by kernel_rfl
theorem tf_valueOf153 (e : Addr) (w : World) : (ReflectliteValue.unpack (.iface 195 (.pointer (some e)))).run Tryz.prog w
    = .ok (.agg #[.pointer (some ⟨4, 195, none⟩), .pointer (some ⟨w.heap.size, 0, none⟩), .int .u64 150]) (w.alloc (.cells #[.pointer (some e)] 195)) := by kernel_rfl
theorem tf_elemOf155 (w : World) : (Rtype.elem? 199).run Tryz.prog w = .ok (some 195) w := by kernel_rfl
theorem tf_mk153 (p : Addr) (w : World) : (ReflectliteValue.mk 195 p ReflectliteValue.flagAddr).run Tryz.prog w = .ok (.agg #[.pointer (some ⟨4, 195, none⟩), .pointer (some p), .int .u64 406]) w := by kernel_rfl
theorem tf_elemV155 (a p : Addr) (W : World) (ha : W.cell? a = some (.pointer (some p))) :
    (ReflectliteValue.method (ReflectliteValue.valueError "reflectlite.Value.Elem" 0) ReflectliteValue.elem #[.agg #[.pointer (some ⟨4, 199, none⟩), .pointer (some a), .int .u64 150]]).run Tryz.prog W
      = .ok (.agg #[.pointer (some ⟨4, 195, none⟩), .pointer (some p), .int .u64 406]) W := by
  rw [tz_rlm]
  simp only [Sem.run_bind, tf_parts155, Result.andThen]
  simp [ReflectliteValue.elem, loadVar, isAgg, underlying, Tryz.underlying199, ha, Result.andThen, tf_elemOf155, tf_mk153]
theorem tf_parts153a (a : Addr) (w : World) : (ReflectliteValue.parts (.agg #[.pointer (some ⟨4, 195, none⟩), .pointer (some a), .int .u64 406])).run Tryz.prog w = .ok (some (195, a, 406)) w := by kernel_rfl
theorem tf_parts153 (a : Addr) (w : World) : (ReflectliteValue.parts (.agg #[.pointer (some ⟨4, 195, none⟩), .pointer (some a), .int .u64 150])).run Tryz.prog w = .ok (some (195, a, 150)) w := by kernel_rfl
theorem tf_direct153 (w : World) : (Rtype.directlyAssignable 195 195).run Tryz.prog w = .ok true w := by kernel_rfl
theorem tf_typeOfW (v : Value) (w : World) : (ReflectliteType.typeOf #[.iface 268 v]).run Tryz.prog w = .ok (.iface 342 (.agg #[.pointer (some ⟨4, 268, none⟩)])) w := by kernel_rfl
theorem tf_assignableW (w : World) : (ReflectliteType.relation "AssignableTo" ReflectliteType.assignableTo #[.agg #[.pointer (some ⟨4, 268, none⟩)], .iface 342 (.agg #[.pointer (some ⟨4, 195, none⟩)])]).run Tryz.prog w = .ok (.bool false) w := by kernel_rfl
theorem tf_set153 (ta b : Addr) (e : Addr) (old : Value) (W : World) (hb : W.cell? b = some (.pointer (some e))) (ht : W.cell? ta = some old) (hf : W.frozen? ta = false) :
    (ReflectliteValue.set #[.agg #[.pointer (some ⟨4, 195, none⟩), .pointer (some ta), .int .u64 406], .agg #[.pointer (some ⟨4, 195, none⟩), .pointer (some b), .int .u64 150]]).run Tryz.prog W
      = .ok (.tuple #[]) (W.setCell ta (.pointer (some e))) := by
  rw [tz_rls]
  simp only [Sem.run_bind, tf_parts153a, tf_parts153, Result.andThen]
  simp [ReflectliteValue.flagAddr, loadVar, isAgg, underlying, Tryz.underlying195, hb, Result.andThen, tf_direct153, storeVar, Value.cells, storeCells, Addr.add, loadCells, loadCellsFrom]
  rw [run_store Tryz.prog W ta _ _ (by rfl)]
  simp [ht, hf]
set_option maxHeartbeats 4000000 in
theorem tf_as (e : Addr) (t : Addr) (old : Value) (w : World) (hg : w.cell? ⟨0, 0, none⟩ = some (.iface 342 (.agg #[.pointer (some ⟨4, 102, none⟩)]))) (ht0 : w.cell? t = some old) (hf0 : w.frozen? t = false) :
    Calls Tryz.prog 123 #[.iface 195 (.pointer (some e)), .iface 199 (.pointer (some t))] w fun ev w' => ev = .returned (.bool true) ∧ w' = ((((w.alloc (.cells #[.pointer (some t)] 199)).alloc (.cells #[.pointer (some ⟨4, 199, none⟩), .pointer (some ⟨w.heap.size, 0, none⟩), .int .u64 150] 281)).alloc (.cells #[.pointer (some ⟨4, 199, none⟩), .pointer (some ⟨w.heap.size, 0, none⟩), .int .u64 150] 281)).alloc (.cells #[.pointer (some e)] 195)).setCell t (.pointer (some e)) := by
  have h6 := @run_callFunc_extern Tryz.prog 181 _ (fun args => ReflectliteValue.unpack (args.getD 0 (.tuple #[]))) Tryz.func181 (by kernel_rfl) (by kernel_rfl) (by kernel_rfl) (by kernel_rfl)
  have h7 := @run_callFunc_extern Tryz.prog 182 _ (ReflectliteValue.methodAny (ReflectliteValue.valueError "reflectlite.Value.Type" 0) (fun t _ _ _ => ReflectliteType.toType t)) Tryz.func182 (by kernel_rfl) (by kernel_rfl) (by kernel_rfl) (by kernel_rfl)
  have h8 := @run_callFunc_extern Tryz.prog 183 _ (ReflectliteValue.method (ReflectliteValue.valueError "reflectlite.Value.IsNil" 0) ReflectliteValue.isNil) Tryz.func183 (by kernel_rfl) (by kernel_rfl) (by kernel_rfl) (by kernel_rfl)
  have h27 := @run_callFunc_extern Tryz.prog 324 _ (ReflectliteType.abiMethod fun t => do pure (.int .u8 (← Rtype.kind t))) Tryz.func324 (by kernel_rfl) (by kernel_rfl) (by kernel_rfl) (by kernel_rfl)
  have h37 := @run_callFunc_extern Tryz.prog 337 _ (ReflectliteType.method ReflectliteType.elem) Tryz.func337 (by kernel_rfl) (by kernel_rfl) (by kernel_rfl) (by kernel_rfl)
  have h38 := @run_callFunc_extern Tryz.prog 338 _ (ReflectliteType.relation "Implements" ReflectliteType.implements_) Tryz.func338 (by kernel_rfl) (by kernel_rfl) (by kernel_rfl) (by kernel_rfl)
  have h10 := @run_callFunc_extern Tryz.prog 227 _ ReflectliteType.typeOf Tryz.func227 (by kernel_rfl) (by kernel_rfl) (by kernel_rfl) (by kernel_rfl)
  have h35 := @run_callFunc_extern Tryz.prog 335 _ (ReflectliteType.relation "AssignableTo" ReflectliteType.assignableTo) Tryz.func335 (by kernel_rfl) (by kernel_rfl) (by kernel_rfl) (by kernel_rfl)
  have h11 := @run_callFunc_extern Tryz.prog 228 _ (ReflectliteValue.method (ReflectliteValue.valueError "reflectlite.Value.Elem" 0) ReflectliteValue.elem) Tryz.func228 (by kernel_rfl) (by kernel_rfl) (by kernel_rfl) (by kernel_rfl)
  have h12 := @run_callFunc_extern Tryz.prog 229 _ ReflectliteValue.set Tryz.func229 (by kernel_rfl) (by kernel_rfl) (by kernel_rfl) (by kernel_rfl)
  have tO := tf_typeOf153
  have mA := tz_methodAssignableTo
  have a25 := tf_assignable153
  have v25 := tf_valueOf153
  have f6 := tf_valueOf155
  have f7 := tf_type155
  have mK := tz_methodKind
  have mE := tz_methodElem
  have mI := tz_methodImplements
  have k27 := tf_kind155
  have k25 := tf_kind153
  have e27 := tf_elem155
  have i25 := tf_implements153
  have n8 := tf_isNil155 ⟨w.heap.size, 0, none⟩ t ((w.alloc (.cells #[.pointer (some t)] 199)).alloc (.cells #[.pointer (some ⟨4, 199, none⟩), .pointer (some ⟨w.heap.size, 0, none⟩), .int .u64 150] 281)) (by simp)
  have hlt : 0 < w.heap.size := by
    rcases Nat.eq_zero_or_pos w.heap.size with h0 | h
    · simp [World.cell?, h0] at hg
    · exact h
  have hg2 : ((w.alloc (.cells #[.pointer (some t)] 199)).alloc (.cells #[.pointer (some ⟨4, 199, none⟩), .pointer (some ⟨w.heap.size, 0, none⟩), .int .u64 150] 281)).cell? ⟨0, 0, none⟩ = some (.iface 342 (.agg #[.pointer (some ⟨4, 102, none⟩)])) := by
    rw [World.cell?_alloc_lt _ _ ⟨0, 0, none⟩ (by simp), World.cell?_alloc_lt _ _ ⟨0, 0, none⟩ hlt]; exact hg
  have htl : t.block < w.heap.size := by
    rcases Nat.lt_or_ge t.block w.heap.size with h | h
    · exact h
    · simp [World.cell?, Array.getElem?_eq_none h] at ht0
  have el := tf_elemV155 ⟨w.heap.size, 0, none⟩ t (((w.alloc (.cells #[.pointer (some t)] 199)).alloc (.cells #[.pointer (some ⟨4, 199, none⟩), .pointer (some ⟨w.heap.size, 0, none⟩), .int .u64 150] 281)).alloc (.cells #[.pointer (some ⟨4, 199, none⟩), .pointer (some ⟨w.heap.size, 0, none⟩), .int .u64 150] 281)) (by rw [World.cell?_alloc_lt _ _ ⟨w.heap.size, 0, none⟩ (by simp; omega)]; simp)
  have st := tf_set153 t ⟨w.heap.size + 1 + 1 + 1, 0, none⟩ e old ((((w.alloc (.cells #[.pointer (some t)] 199)).alloc (.cells #[.pointer (some ⟨4, 199, none⟩), .pointer (some ⟨w.heap.size, 0, none⟩), .int .u64 150] 281)).alloc (.cells #[.pointer (some ⟨4, 199, none⟩), .pointer (some ⟨w.heap.size, 0, none⟩), .int .u64 150] 281)).alloc (.cells #[.pointer (some e)] 195))
    (by rw [World.cell?_alloc_at _ _ _ _ (by simp)]; rfl)
    (by rw [World.cell?_alloc_lt _ _ t (by simp; omega), World.cell?_alloc_lt _ _ t (by simp; omega), World.cell?_alloc_lt _ _ t (by simp; omega), World.cell?_alloc_lt _ _ t htl]; exact ht0)
    (by rw [World.frozen?_alloc_old _ _ t (by simp; omega), World.frozen?_alloc_old _ _ t (by simp; omega), World.frozen?_alloc_old _ _ t (by simp; omega), World.frozen?_alloc_old _ _ t (Nat.ne_of_lt htl)]; exact hf0)
  go_enter Tryz.func123, Tryz.ntmps123
  go_wp2
  refine wp_loop_rounds 1 ?_
  rw [rounds_succ]
  go_wp2
  go_ret
  exact ⟨rfl, rfl⟩
end Go.Proofs.YtonglhkiobibgaaGreatDoor
namespace Go.Proofs.YtonglhkiobibgaaGreatDoor
open Go.RowKit Go.Extern.Stop Go.Stop Go.Extern
set_option maxRecDepth 100000
theorem tf_noAs (v : Value) (xT : TypeId) (w : World) : (Instr.typeAssert (.iface 268 v) xT 347 true).run Tryz.prog w = .ok (.tuple #[.nilIface, .bool false]) w := run_typeAssert_lacksB Tryz.underlying347 (by kernel_rfl) (by kernel_rfl) v xT w
theorem tf_hasUn (v : Value) (xT : TypeId) (w : World) : (Instr.typeAssert (.iface 268 v) xT 350 true).run Tryz.prog w = .ok (.tuple #[.iface 268 v, .bool true]) w := run_typeAssert_hasB Tryz.underlying350 (by kernel_rfl) v xT w
theorem tf_methodUn (v : Value) (w : World) : (Go.method 559 268 v "Unwrap").run Tryz.prog w = .ok (329, v) w := by kernel_rfl
set_option maxHeartbeats 4000000 in
theorem tf_asw (op : ByteArray) (e : Addr) (t : Addr) (old : Value) (w : World) (hg : w.cell? ⟨0, 0, none⟩ = some (.iface 342 (.agg #[.pointer (some ⟨4, 102, none⟩)]))) (ht0 : w.cell? t = some old) (hf0 : w.frozen? t = false) :
    Calls Tryz.prog 123 #[.iface 268 (.agg #[.string op, .iface 195 (.pointer (some e))]), .iface 199 (.pointer (some t))] w fun ev w' => ev = .returned (.bool true) ∧ w' = (((((w.alloc (.cells #[.pointer (some t)] 199)).alloc (.cells #[.pointer (some ⟨4, 199, none⟩), .pointer (some ⟨w.heap.size, 0, none⟩), .int .u64 150] 281)).alloc (.cells #[.pointer (some ⟨4, 199, none⟩), .pointer (some ⟨w.heap.size, 0, none⟩), .int .u64 150] 281)).alloc (.cells #[.string op, .iface 195 (.pointer (some e))] 268)).alloc (.cells #[.pointer (some e)] 195)).setCell t (.pointer (some e)) := by
  have h6 := @run_callFunc_extern Tryz.prog 181 _ (fun args => ReflectliteValue.unpack (args.getD 0 (.tuple #[]))) Tryz.func181 (by kernel_rfl) (by kernel_rfl) (by kernel_rfl) (by kernel_rfl)
  have h7 := @run_callFunc_extern Tryz.prog 182 _ (ReflectliteValue.methodAny (ReflectliteValue.valueError "reflectlite.Value.Type" 0) (fun t _ _ _ => ReflectliteType.toType t)) Tryz.func182 (by kernel_rfl) (by kernel_rfl) (by kernel_rfl) (by kernel_rfl)
  have h8 := @run_callFunc_extern Tryz.prog 183 _ (ReflectliteValue.method (ReflectliteValue.valueError "reflectlite.Value.IsNil" 0) ReflectliteValue.isNil) Tryz.func183 (by kernel_rfl) (by kernel_rfl) (by kernel_rfl) (by kernel_rfl)
  have h27 := @run_callFunc_extern Tryz.prog 324 _ (ReflectliteType.abiMethod fun t => do pure (.int .u8 (← Rtype.kind t))) Tryz.func324 (by kernel_rfl) (by kernel_rfl) (by kernel_rfl) (by kernel_rfl)
  have h37 := @run_callFunc_extern Tryz.prog 337 _ (ReflectliteType.method ReflectliteType.elem) Tryz.func337 (by kernel_rfl) (by kernel_rfl) (by kernel_rfl) (by kernel_rfl)
  have h38 := @run_callFunc_extern Tryz.prog 338 _ (ReflectliteType.relation "Implements" ReflectliteType.implements_) Tryz.func338 (by kernel_rfl) (by kernel_rfl) (by kernel_rfl) (by kernel_rfl)
  have h10 := @run_callFunc_extern Tryz.prog 227 _ ReflectliteType.typeOf Tryz.func227 (by kernel_rfl) (by kernel_rfl) (by kernel_rfl) (by kernel_rfl)
  have h35 := @run_callFunc_extern Tryz.prog 335 _ (ReflectliteType.relation "AssignableTo" ReflectliteType.assignableTo) Tryz.func335 (by kernel_rfl) (by kernel_rfl) (by kernel_rfl) (by kernel_rfl)
  have h11 := @run_callFunc_extern Tryz.prog 228 _ (ReflectliteValue.method (ReflectliteValue.valueError "reflectlite.Value.Elem" 0) ReflectliteValue.elem) Tryz.func228 (by kernel_rfl) (by kernel_rfl) (by kernel_rfl) (by kernel_rfl)
  have h12 := @run_callFunc_extern Tryz.prog 229 _ ReflectliteValue.set Tryz.func229 (by kernel_rfl) (by kernel_rfl) (by kernel_rfl) (by kernel_rfl)
  have tO := tf_typeOf153
  have mA := tz_methodAssignableTo
  have tW := tf_typeOfW
  have aW := tf_assignableW
  have nA := tf_noAs
  have hU := tf_hasUn
  have mU := tf_methodUn
  have a25 := tf_assignable153
  have v25 := tf_valueOf153
  have f6 := tf_valueOf155
  have f7 := tf_type155
  have mK := tz_methodKind
  have mE := tz_methodElem
  have mI := tz_methodImplements
  have k27 := tf_kind155
  have k25 := tf_kind153
  have e27 := tf_elem155
  have i25 := tf_implements153
  have n8 := tf_isNil155 ⟨w.heap.size, 0, none⟩ t ((w.alloc (.cells #[.pointer (some t)] 199)).alloc (.cells #[.pointer (some ⟨4, 199, none⟩), .pointer (some ⟨w.heap.size, 0, none⟩), .int .u64 150] 281)) (by simp)
  have hlt : 0 < w.heap.size := by
    rcases Nat.eq_zero_or_pos w.heap.size with h0 | h
    · simp [World.cell?, h0] at hg
    · exact h
  have hg2 : ((w.alloc (.cells #[.pointer (some t)] 199)).alloc (.cells #[.pointer (some ⟨4, 199, none⟩), .pointer (some ⟨w.heap.size, 0, none⟩), .int .u64 150] 281)).cell? ⟨0, 0, none⟩ = some (.iface 342 (.agg #[.pointer (some ⟨4, 102, none⟩)])) := by
    rw [World.cell?_alloc_lt _ _ ⟨0, 0, none⟩ (by simp), World.cell?_alloc_lt _ _ ⟨0, 0, none⟩ hlt]; exact hg
  have htl : t.block < w.heap.size := by
    rcases Nat.lt_or_ge t.block w.heap.size with h | h
    · exact h
    · simp [World.cell?, Array.getElem?_eq_none h] at ht0
  have el := tf_elemV155 ⟨w.heap.size, 0, none⟩ t ((((w.alloc (.cells #[.pointer (some t)] 199)).alloc (.cells #[.pointer (some ⟨4, 199, none⟩), .pointer (some ⟨w.heap.size, 0, none⟩), .int .u64 150] 281)).alloc (.cells #[.pointer (some ⟨4, 199, none⟩), .pointer (some ⟨w.heap.size, 0, none⟩), .int .u64 150] 281)).alloc (.cells #[.string op, .iface 195 (.pointer (some e))] 268)) (by rw [World.cell?_alloc_lt _ _ ⟨w.heap.size, 0, none⟩ (by simp; omega), World.cell?_alloc_lt _ _ ⟨w.heap.size, 0, none⟩ (by simp; omega)]; simp)
  have st := tf_set153 t ⟨w.heap.size + 1 + 1 + 1 + 1, 0, none⟩ e old (((((w.alloc (.cells #[.pointer (some t)] 199)).alloc (.cells #[.pointer (some ⟨4, 199, none⟩), .pointer (some ⟨w.heap.size, 0, none⟩), .int .u64 150] 281)).alloc (.cells #[.pointer (some ⟨4, 199, none⟩), .pointer (some ⟨w.heap.size, 0, none⟩), .int .u64 150] 281)).alloc (.cells #[.string op, .iface 195 (.pointer (some e))] 268)).alloc (.cells #[.pointer (some e)] 195))
    (by rw [World.cell?_alloc_at _ _ _ _ (by simp)]; rfl)
    (by rw [World.cell?_alloc_lt _ _ t (by simp; omega), World.cell?_alloc_lt _ _ t (by simp; omega), World.cell?_alloc_lt _ _ t (by simp; omega), World.cell?_alloc_lt _ _ t (by simp; omega), World.cell?_alloc_lt _ _ t htl]; exact ht0)
    (by rw [World.frozen?_alloc_old _ _ t (by simp; omega), World.frozen?_alloc_old _ _ t (by simp; omega), World.frozen?_alloc_old _ _ t (by simp; omega), World.frozen?_alloc_old _ _ t (by simp; omega), World.frozen?_alloc_old _ _ t (Nat.ne_of_lt htl)]; exact hf0)
  go_enter Tryz.func123, Tryz.ntmps123
  go_wp2
  refine wp_loop_rounds 2 ?_
  rw [rounds_succ]
  go_wp2
  rw [rounds_succ]
  go_wp2
  go_ret
  exact ⟨rfl, rfl⟩
end Go.Proofs.YtonglhkiobibgaaGreatDoor
namespace Go.Proofs.YtonglhkiobibgaaGreatDoor
open Go.RowKit
set_option maxRecDepth 100000
/-- what lay lies as it lay -/
structure Ext (w W : World) : Prop where
  size : w.heap.size ≤ W.heap.size
  block : ∀ b, b < w.heap.size → W.heap[b]? = w.heap[b]?
  out : W.output = w.output
  os : W.os = w.os
  tape : W.tape = w.tape
theorem Ext.refl (w : World) : Ext w w := ⟨Nat.le_refl _, fun _ _ => rfl, rfl, rfl, rfl⟩
theorem Ext.alloc {w W : World} (h : Ext w W) (o : Obj) : Ext w (W.alloc o) :=
  ⟨by rw [World.size_alloc]; exact Nat.le_succ_of_le h.size, fun b hb => (Below.heap_alloc _ _ _ (Nat.lt_of_lt_of_le hb h.size)).trans (h.block b hb), h.out, h.os, h.tape⟩
theorem Ext.set {w W : World} (h : Ext w W) {b : Nat} (hb : w.heap.size ≤ b) (v : Value) : Ext w (W.setCell ⟨b, 0, none⟩ v) :=
  ⟨by show _ ≤ (W.heap.modify b _).size; rw [Array.size_modify]; exact h.size, fun k hk => (Below.heap_setCell W ⟨b, 0, none⟩ v k (by show k ≠ b; omega)).trans (h.block k hk), h.out, h.os, h.tape⟩
theorem Ext.cell {w W : World} (h : Ext w W) {a : Addr} {v : Value} (ha : w.cell? a = some v) : W.cell? a = some v := by
  have hb : a.block < w.heap.size := by
    rcases Nat.lt_or_ge a.block w.heap.size with h | h
    · exact h
    · simp [World.cell?, Array.getElem?_eq_none h] at ha
  exact (World.cell?_of_block (h.block a.block hb)).trans ha
/-- what errors.As leaves: the target holds the error -/
theorem after_as {w X : World} {v old : Value} (h : Ext (w.alloc (.cells #[old] 195)) X) : Ext w (X.setCell ⟨w.heap.size, 0, none⟩ v) ∧ (X.setCell ⟨w.heap.size, 0, none⟩ v).cell? ⟨w.heap.size, 0, none⟩ = some v := by
  have h0 : Ext w X := ⟨by have := h.size; rw [World.size_alloc] at this; omega, fun b hb => (h.block b (by rw [World.size_alloc]; omega)).trans (Below.heap_alloc _ _ _ hb), h.out, h.os, h.tape⟩
  refine ⟨h0.set (Nat.le_refl _) v, World.cell?_setCell_same' _ _ _ (by rw [h.cell (show (w.alloc (.cells #[old] 195)).cell? ⟨w.heap.size, 0, none⟩ = some old by simp)]; rfl)⟩
set_option maxHeartbeats 4000000 in
theorem fcode_walk (e : Addr) (cd : Int) (w : World) (hg : w.cell? ⟨0, 0, none⟩ = some (.iface 342 (.agg #[.pointer (some ⟨4, 102, none⟩)]))) (he : w.cell? e = some (.int .i64 cd)) :
    Calls Tryz.prog 79 #[.iface 195 (.pointer (some e))] w fun ev w' => ev = .returned (.int .i64 cd) ∧ Ext w w' := by
  have hlt : 0 < w.heap.size := by
    rcases Nat.eq_zero_or_pos w.heap.size with h0 | h
    · simp [World.cell?, h0] at hg
    · exact h
  have hgA : (w.alloc (.cells #[.pointer none] 195)).cell? ⟨0, 0, none⟩ = some (.iface 342 (.agg #[.pointer (some ⟨4, 102, none⟩)])) := by
    rw [World.cell?_alloc_lt _ _ ⟨0, 0, none⟩ hlt]; exact hg
  have htA : (w.alloc (.cells #[.pointer none] 195)).cell? ⟨w.heap.size, 0, none⟩ = some (.pointer none) := by simp
  have hfA : (w.alloc (.cells #[.pointer none] 195)).frozen? ⟨w.heap.size, 0, none⟩ = false := by simp
  have hx : ∀ w', w' = _ → _ := fun w' (hw : w' = ((((((w.alloc (.cells #[.pointer none] 195)).alloc (.cells #[.pointer (some ⟨w.heap.size, 0, none⟩)] 199)).alloc (.cells #[.pointer (some ⟨4, 199, none⟩), .pointer (some ⟨(w.alloc (.cells #[.pointer none] 195)).heap.size, 0, none⟩), .int .u64 150] 281)).alloc (.cells #[.pointer (some ⟨4, 199, none⟩), .pointer (some ⟨(w.alloc (.cells #[.pointer none] 195)).heap.size, 0, none⟩), .int .u64 150] 281)).alloc (.cells #[.pointer (some e)] 195)).setCell ⟨w.heap.size, 0, none⟩ (.pointer (some e)))) =>
    hw ▸ after_as (v := .pointer (some e)) (((((Ext.refl _).alloc _).alloc _).alloc _).alloc _)
  go_enter Tryz.func79, Tryz.ntmps79
  go_wp2_with (first | (go_at_call 123; refine (tf_as e _ (.pointer none) _ hgA htA hfA).mono ?_; rintro ev w' ⟨rfl, hw⟩; obtain ⟨k1, k2⟩ := hx w' hw; have k3 := k1.cell he; clear hw))
  go_ret
  exact ⟨rfl, k1⟩
set_option maxHeartbeats 4000000 in
theorem fcodeW_walk (op : ByteArray) (e : Addr) (cd : Int) (w : World) (hg : w.cell? ⟨0, 0, none⟩ = some (.iface 342 (.agg #[.pointer (some ⟨4, 102, none⟩)]))) (he : w.cell? e = some (.int .i64 cd)) :
    Calls Tryz.prog 79 #[.iface 268 (.agg #[.string op, .iface 195 (.pointer (some e))])] w fun ev w' => ev = .returned (.int .i64 cd) ∧ Ext w w' := by
  have hlt : 0 < w.heap.size := by
    rcases Nat.eq_zero_or_pos w.heap.size with h0 | h
    · simp [World.cell?, h0] at hg
    · exact h
  have hgA : (w.alloc (.cells #[.pointer none] 195)).cell? ⟨0, 0, none⟩ = some (.iface 342 (.agg #[.pointer (some ⟨4, 102, none⟩)])) := by
    rw [World.cell?_alloc_lt _ _ ⟨0, 0, none⟩ hlt]; exact hg
  have htA : (w.alloc (.cells #[.pointer none] 195)).cell? ⟨w.heap.size, 0, none⟩ = some (.pointer none) := by simp
  have hfA : (w.alloc (.cells #[.pointer none] 195)).frozen? ⟨w.heap.size, 0, none⟩ = false := by simp
  have hx : ∀ w', w' = _ → _ := fun w' (hw : w' = (((((((w.alloc (.cells #[.pointer none] 195)).alloc (.cells #[.pointer (some ⟨w.heap.size, 0, none⟩)] 199)).alloc (.cells #[.pointer (some ⟨4, 199, none⟩), .pointer (some ⟨(w.alloc (.cells #[.pointer none] 195)).heap.size, 0, none⟩), .int .u64 150] 281)).alloc (.cells #[.pointer (some ⟨4, 199, none⟩), .pointer (some ⟨(w.alloc (.cells #[.pointer none] 195)).heap.size, 0, none⟩), .int .u64 150] 281)).alloc (.cells #[.string op, .iface 195 (.pointer (some e))] 268)).alloc (.cells #[.pointer (some e)] 195)).setCell ⟨w.heap.size, 0, none⟩ (.pointer (some e)))) =>
    hw ▸ after_as (v := .pointer (some e)) ((((((Ext.refl _).alloc _).alloc _).alloc _).alloc _).alloc _)
  go_enter Tryz.func79, Tryz.ntmps79
  go_wp2_with (first | (go_at_call 123; refine (tf_asw op e _ (.pointer none) _ hgA htA hfA).mono ?_; rintro ev w' ⟨rfl, hw⟩; obtain ⟨k1, k2⟩ := hx w' hw; have k3 := k1.cell he; clear hw))
  go_ret
  exact ⟨rfl, k1⟩
theorem Ext.then {c : Cx} {w' : World} (h : Ext c.w w') (hr : HR c) (nb : Nat) : Then c nb [] (c.at w') := Then.onlyW hr nb h.size h.block h.out h.os h.tape
abbrev aFlt (f : Bool) (cd : Int) (at_ : ByteArray) : AV := .ifc 195 (.fp f [.v (.int .i64 cd), .v (.string at_)] 0)
abbrev aWrp (op : ByteArray) (f : Bool) (cd : Int) (at_ : ByteArray) : AV := .ifc 268 (.agg [.v (.string op), aFlt f cd at_])
theorem fcode_spec (f : Bool) (cd : Int) (a : ByteArray) (nb : Nat) : ASound Tryz.prog 79 [aFlt f cd a] nb (.ret (.v (.int .i64 cd)) []) := by
  refine ⟨by kernel_rfl, fun c us r R W hrun hr hfr hv => ?_⟩
  simp [AM.run] at hrun
  obtain ⟨rfl, _, rfl⟩ := hrun
  obtain ⟨u, us', rfl, ⟨v, rfl, hx⟩, hn⟩ := hv
  rw [VRt] at hn
  subst hn
  rw [VR] at hx
  obtain ⟨b, o, rfl, hlt, ho, hm⟩ := hx
  simp only [VRm, Nat.add_zero] at hm
  obtain ⟨⟨v1, hc1, _, hv1⟩, _⟩ := hm
  obtain rfl : v1 = .int .i64 cd := hv1
  refine (fcode_walk _ cd c.w (hr.gl 0 _ rfl).1 hc1).mono ?_
  rintro ev w' ⟨rfl, hw⟩
  exact ⟨_, c.at w', rfl, rfl, rfl, hw.then hr nb⟩
theorem fcodeW_spec (op : ByteArray) (f : Bool) (cd : Int) (a : ByteArray) (nb : Nat) : ASound Tryz.prog 79 [aWrp op f cd a] nb (.ret (.v (.int .i64 cd)) []) := by
  refine ⟨by kernel_rfl, fun c us r R W hrun hr hfr hv => ?_⟩
  simp [AM.run] at hrun
  obtain ⟨rfl, _, rfl⟩ := hrun
  obtain ⟨u, us', rfl, ⟨v, rfl, vs, rfl, x, vs', rfl, _, hop, y, vs2, rfl, _, ⟨z, rfl, hx⟩, hn2⟩, hn⟩ := hv
  rw [VRl] at hn2
  subst hn2
  rw [VRt] at hn
  subst hn
  rw [VR] at hx
  obtain rfl : x = .string op := hop
  obtain ⟨b, o, rfl, hlt, ho, hm⟩ := hx
  simp only [VRm, Nat.add_zero] at hm
  obtain ⟨⟨v1, hc1, _, hv1⟩, _⟩ := hm
  obtain rfl : v1 = .int .i64 cd := hv1
  refine (fcodeW_walk op _ cd c.w (hr.gl 0 _ rfl).1 hc1).mono ?_
  rintro ev w' ⟨rfl, hw⟩
  exact ⟨_, c.at w', rfl, rfl, rfl, hw.then hr nb⟩
end Go.Proofs.YtonglhkiobibgaaGreatDoor
namespace Go.Proofs.YtonglhkiobibgaaGreatDoor
open Go.RowKit
set_option maxRecDepth 100000
theorem refuse_spec (cd : Int) (a : ByteArray) (nb : Nat) (h : cd ≠ 0) : ASound Tryz.prog 77 [.v (.int .i64 cd), .v (.string a)] nb (.ret (aFlt true cd a) []) := by
  refine ok_77.sound (by simp) ⟨trivial, trivial, trivial⟩ ?_
  have h' : (cd = 0) = False := eq_false h
  simp only [ac_77, h', decide_false, TT, ↓reduceIte, Nat.reduceEqDiff, Nat.reduceAdd, Nat.reduceMul, reduceCtorEq, Nat.reduceLeDiff]
  exact Ends.weak (Weak.ifcData (y := true) (e := 197) (off := 0) (cells := [.v (.int .i64 cd), .v (.string a)]) 4 195 600000 (by simp [ET]) (by simp [ET]) ⟨trivial, trivial, trivial⟩) (Ends.data (.inr rfl) (by simp [ET]) ⟨trivial, trivial, trivial⟩)
theorem wrap_spec (op : ByteArray) (f : Bool) (cd : Int) (a : ByteArray) (nb : Nat) : ASound Tryz.prog 114 [.v (.string op), aFlt f cd a] nb (.ret (aWrp op f cd a) []) := by
  refine ok_114.sound (by simp) ⟨trivial, ⟨trivial, trivial, trivial⟩, trivial⟩ ?_
  simp only [ac_114, aFlt, TT, ↓reduceIte, Nat.reduceEqDiff, Nat.reduceAdd, Nat.reduceMul, reduceCtorEq, Nat.reduceLeDiff]
  exact Ends.data (.inr rfl) (by simp [ET]) ⟨trivial, ⟨trivial, trivial, trivial⟩, trivial⟩
/-- where names lead: a number, or what is amiss at which name -/
def walkF (s : FSt) : Int → List ByteArray → Except (Int × ByteArray) Int
  | t, [] => .ok t
  | t, x :: r => if (nodA s t).dir = true then (if (findE (nodA s t).entries x).2.1 = true then walkF s (findE (nodA s t).entries x).1 r else .error (101, x)) else .error (103, x)
def aWalk : Except (Int × ByteArray) Int → AV
  | .ok t => .tup [.v (.int .i64 t), .v .nilIface]
  | .error (cd, x) => .tup [.v (.int .i64 0), aFlt true cd x]
theorem findE_has {s : FSt} (hok : okE s) {t : Int} (ht : hasN s.nodes t) {x : ByteArray} (h : (findE (nodA s t).entries x).2.1 = true) : hasN s.nodes (findE (nodA s t).entries x).1 := by
  obtain ⟨n, hx, hmem, _⟩ := hasN_get ht
  have hA : nodA s t = n := by rw [nodA, hx]
  rw [hA] at h ⊢
  unfold findE at h ⊢
  split at h
  · split at h
    · rename_i h1 h2
      rw [if_pos h1, if_pos h2]
      obtain ⟨e, he⟩ : ∃ e, n.entries[plcE n.entries x]? = some e := ⟨_, List.getElem?_eq_getElem h2.1⟩
      have : inoE n.entries (plcE n.entries x) = e.ino := by rw [inoE, he]
      show hasN s.nodes (inoE n.entries (plcE n.entries x))
      rw [this]
      exact (hok n hmem).2 e (List.mem_of_getElem? he)
    · simp at h
  · simp at h
theorem walkF_drop {s : FSt} {t : Int} {l : List ByteArray} {i : Nat} {x : ByteArray} (h : l[i]? = some x) : walkF s t (l.drop i) = if (nodA s t).dir = true then (if (findE (nodA s t).entries x).2.1 = true then walkF s (findE (nodA s t).entries x).1 (l.drop (i + 1)) else .error (101, x)) else .error (103, x) := by
  have hi := (List.getElem?_eq_some_iff.1 h)
  rw [List.drop_eq_getElem_cons hi.1, hi.2]; rfl
abbrev L_wk (f fr fl : Bool) (s : FSt) (l : List ByteArray) (q : Nat × Int) : ASt := ⟨envOf [(0, pFs f fr s), (6, .v (.int .i64 q.2)), (13, fS fl l), (14, .v (.int .i64 l.length)), (15, .v (.int .i64 q.1))], heapOf [], 1⟩
set_option maxHeartbeats 2000000 in
theorem walk_spec (f fr fl : Bool) (s : FSt) (l : List ByteArray) (nb : Nat) (hl : s.nodes.length ≤ 140737488355328) (hok : okE s) (h1 : hasN s.nodes 1) (hll : l.length ≤ 140737488355328) :
    ASound Tryz.prog 115 [pFs f fr s, fS fl l] nb (.ret (aWalk (walkF s 1 l)) []) := by
  refine ok_115.sound (by simp) ⟨al_pFs s, al_fS l, trivial⟩ ?_
  simp only [ac_115, pFs, fNds, fS, TT, ↓reduceIte, Nat.reduceEqDiff, Nat.reduceAdd, Nat.reduceMul, reduceCtorEq, Nat.reduceLeDiff]
  refine AWc.family (L_wk f fr fl s l) (fun q => q.1 ≤ l.length ∧ hasN s.nodes q.2 ∧ walkF s q.2 (l.drop q.1) = walkF s 1 l) (fun q => l.length - q.1) (0, 1) ⟨Nat.zero_le _, h1, rfl⟩ ?_ ?_
  · refine Weak.calc [] (by decide) ?_ ?_ <;> simp [WT, pFs, fNds, al_Nds, ren_Nds, fS, al_S, ren_S]
  · rintro ⟨i, t⟩ ⟨hi, ht, he⟩
    simp only at hi ht he
    by_cases hlt : i < l.length
    · obtain ⟨x, hx, e1, e0⟩ := lt_at hlt
      have hn := fun nb => node_spec f fr s t nb hl ht.1
      obtain ⟨n, hxn, hmem, _⟩ := hasN_get ht
      have hA : nodA s t = n := by rw [nodA, hxn]
      obtain ⟨a0, a1, a2, a3, a4, a5⟩ := get_Nds (fr := fr) hxn
      have hf := fun nb => dfind_spec fr n.entries x nb (hok n hmem).1
      rw [walkF_drop hx] at he
      have hfh := fun h => findE_has hok ht (x := x) h
      rw [hA] at he hfh
      simp only [pFs, fNds] at hn
      simp only [fEnts] at hf
      simp only [L_wk, pFs, fNds, fS, e1, e0, get_S hx, Int.toNat_natCast, TT, ↓reduceIte, Nat.reduceEqDiff, Nat.reduceAdd, Nat.reduceMul, reduceCtorEq, Nat.reduceLeDiff]
      refine ⟨_, hn _, ?_⟩
      cases hd : n.dir
      · rw [hd, if_neg (by decide)] at he
        simp only [a1, hd, Bool.not_false, TT, ↓reduceIte, Nat.reduceEqDiff, Nat.reduceAdd, Nat.reduceMul, reduceCtorEq, Nat.reduceLeDiff]
        refine ⟨_, refuse_spec 103 x _ (by decide), ?_⟩
        simp only [TT, ↓reduceIte, Nat.reduceEqDiff, Nat.reduceAdd, Nat.reduceMul, reduceCtorEq, Nat.reduceLeDiff]
        rw [← he]
        exact Ends.data (.inr rfl) (by simp [ET, aWalk]) ⟨trivial, ⟨trivial, trivial, trivial⟩, trivial⟩
      · rw [hd, if_pos rfl] at he
        simp only [a1, a3, hd, Bool.not_true, TT, ↓reduceIte, Nat.reduceEqDiff, Nat.reduceAdd, Nat.reduceMul, reduceCtorEq, Nat.reduceLeDiff]
        refine ⟨_, hf _, ?_⟩
        cases hb : (findE n.entries x).2.1
        · rw [hb, if_neg (by decide)] at he
          simp only [Bool.not_false, TT, ↓reduceIte, Nat.reduceEqDiff, Nat.reduceAdd, Nat.reduceMul, reduceCtorEq, Nat.reduceLeDiff]
          refine ⟨_, refuse_spec 101 x _ (by decide), ?_⟩
          simp only [TT, ↓reduceIte, Nat.reduceEqDiff, Nat.reduceAdd, Nat.reduceMul, reduceCtorEq, Nat.reduceLeDiff]
          rw [← he]
          exact Ends.data (.inr rfl) (by simp [ET, aWalk]) ⟨trivial, ⟨trivial, trivial, trivial⟩, trivial⟩
        · rw [hb, if_pos rfl] at he
          simp only [Bool.not_true, TT, ↓reduceIte, Nat.reduceEqDiff, Nat.reduceAdd, Nat.reduceMul, reduceCtorEq, Nat.reduceLeDiff]
          refine famC_next (i + 1, (findE n.entries x).1) (by show l.length - (i + 1) < l.length - i; omega) ⟨by show i + 1 ≤ l.length; omega, hfh hb, he⟩ ?_
          refine Weak.calc [] (by decide) ?_ ?_ <;> simp [WT, pFs, fNds, al_Nds, ren_Nds, fS, al_S, ren_S, wrap64 (x := (i : Int) + 1) (by omega)]
    · obtain rfl : i = l.length := by omega
      have e1 : ¬ ((l.length : Int) < (l.length : Int)) := by omega
      rw [List.drop_length] at he
      simp only [L_wk, pFs, fNds, fS, e1, TT, ↓reduceIte, Nat.reduceEqDiff, Nat.reduceAdd, Nat.reduceMul, reduceCtorEq, Nat.reduceLeDiff]
      rw [← he]
      exact Ends.data (.inr rfl) (by simp [ET, walkF, aWalk]) ⟨trivial, trivial, trivial⟩
end Go.Proofs.YtonglhkiobibgaaGreatDoor
namespace Go.Proofs.YtonglhkiobibgaaGreatDoor
set_option maxRecDepth 100000
def ac_FD1 : AC :=
(.seq (.seq (.reg false [⟨some 11, .load true 2 (.tmp 2), none, [2], []⟩,
    ⟨some 12, .call 32 [(.tmp 11)], none, [11], []⟩,
    ⟨some 6, .mv (.tmp 12), none, [12], []⟩] [1, 2, 6])
(.seq (.reg false [⟨some 13, .mv (.tmp 6), none, [6], []⟩,
    ⟨some 14, .bin .neq (.tmp 13) (.const (.int .i64 (0))), none, [13], []⟩] [1, 2, 6, 14])
(.cond (.tmp 14)
(.seq (.reg false [⟨some 15, .mv (.tmp 6), none, [6], []⟩,
    ⟨some 16, .mv (.tmp 1), none, [1], []⟩,
    ⟨some 17, .call 77 [(.tmp 15), (.tmp 16)], none, [15, 16], []⟩,
    ⟨some 4, .mv (.const (.pointer none)), none, [], []⟩,
    ⟨some 5, .mv (.tmp 17), none, [17], []⟩] [4, 5])
.ret)
.skip)))
(.seq (.reg false [⟨some 19, .mv (.tmp 1), none, [1], []⟩,
    ⟨some 20, .call 110 [(.tmp 19)], none, [19], []⟩,
    ⟨some 18, .mv (.tmp 20), none, [20], []⟩,
    ⟨some 21, .ext 0 (.tmp 18), none, [18], []⟩,
    ⟨some 22, .ext 1 (.tmp 18), none, [18], []⟩,
    ⟨some 7, .mv (.tmp 21), none, [21], []⟩,
    ⟨some 8, .mv (.tmp 22), none, [22], []⟩] [1, 2, 7, 8])
(.seq (.seq (.reg false [⟨some 23, .mv (.tmp 8), none, [8], []⟩,
    ⟨some 24, .bin .neq (.tmp 23) (.const (.int .i64 (0))), none, [23], []⟩] [1, 2, 7, 8, 24])
(.cond (.tmp 24)
(.seq (.reg false [⟨some 25, .mv (.tmp 8), none, [8], []⟩,
    ⟨some 26, .mv (.tmp 1), none, [1], []⟩,
    ⟨some 27, .call 77 [(.tmp 25), (.tmp 26)], none, [25, 26], []⟩,
    ⟨some 4, .mv (.const (.pointer none)), none, [], []⟩,
    ⟨some 5, .mv (.tmp 27), none, [27], []⟩] [4, 5])
.ret)
.skip))
(.seq (.reg false [⟨some 29, .mv (.tmp 7), none, [7], []⟩,
    ⟨some 30, .call 115 [(.tmp 2), (.tmp 29)], none, [2, 29], []⟩,
    ⟨some 28, .mv (.tmp 30), none, [30], []⟩,
    ⟨some 31, .ext 0 (.tmp 28), none, [28], []⟩,
    ⟨some 32, .ext 1 (.tmp 28), none, [28], []⟩,
    ⟨some 9, .mv (.tmp 31), none, [31], []⟩,
    ⟨some 10, .mv (.tmp 32), none, [32], []⟩] [2, 9, 10])
(.seq (.seq (.reg false [⟨some 33, .mv (.tmp 10), none, [10], []⟩,
    ⟨some 34, .isnil true .nilIface (.tmp 33), none, [33], []⟩] [2, 9, 10, 34])
(.cond (.tmp 34)
(.seq (.reg false [⟨some 35, .mv (.tmp 10), none, [10], []⟩,
    ⟨some 36, .call 114 [(.const (.string (ByteArray.mk #[102, 105, 110, 100]))), (.tmp 35)], none, [35], []⟩,
    ⟨some 4, .mv (.const (.pointer none)), none, [], []⟩,
    ⟨some 5, .mv (.tmp 36), none, [36], []⟩] [4, 5])
.ret)
.skip))
(.seq (.reg false [⟨some 37, .mv (.tmp 9), none, [9], []⟩,
    ⟨some 38, .call 116 [(.tmp 2), (.tmp 37)], none, [2, 37], []⟩,
    ⟨some 4, .mv (.tmp 38), none, [38], []⟩,
    ⟨some 5, .mv (.const .nilIface), none, [], []⟩] [4, 5])
.ret))))))
def ac_FDc : AC :=
(.seq (.reg false [⟨some 2, .box 28 (.tmp 0), none, [0], []⟩,
    ⟨some 4, .mv (.const (.pointer none)), none, [], []⟩,
    ⟨some 5, .mv (.const .nilIface), none, [], []⟩] [1, 2])
(.weak ac_FD1))
theorem ok_FDc : FnOk Tryz.prog 78 39 ac_FDc [.tmp 4, .tmp 5] := ⟨Tryz.f78, Tryz.func78, by kernel_rfl, by kernel_rfl, by kernel_rfl, by kernel_rfl, by kernel_rfl⟩
end Go.Proofs.YtonglhkiobibgaaGreatDoor
namespace Go.Proofs.YtonglhkiobibgaaGreatDoor
open Go.RowKit
set_option maxRecDepth 100000
theorem chk_ok {s : FSt} (h : chkFs s = 0) (hb : ∀ n ∈ s.nodes, n.entries.length ≤ 140737488355328) : okE s ∧ hasN s.nodes 1 := by
  unfold chkFs at h
  split at h
  · cases h
  · rename_i hbad
    split at h
    · rename_i hc
      obtain ⟨hall, _, hinc⟩ := chk1_all hc.1
      refine ⟨fun n hn => ⟨hb n hn, (hall n hn).2⟩, ?_⟩
      have h0 : ¬ s.nodes.length = 0 := fun h9 => hbad (.inr (.inr (.inl h9)))
      have h1 : inoA s.nodes 0 = 1 := Decidable.not_not.1 fun h9 => hbad (.inr (.inr (.inr (.inr h9))))
      obtain ⟨n, hx⟩ : ∃ n, s.nodes[0]? = some n := ⟨_, List.getElem?_eq_getElem (by omega)⟩
      have h2 := hasN_of hinc hx
      rw [inoA_at hx] at h1
      rwa [h1] at h2
    · cases h
theorem walkF_has {s : FSt} (hok : okE s) : ∀ {l : List ByteArray} {t u : Int}, hasN s.nodes t → walkF s t l = .ok u → hasN s.nodes u
  | [], t, u, h, e => by rw [walkF] at e; cases e; exact h
  | x :: r, t, u, h, e => by
    rw [walkF] at e
    split at e
    · split at e
      · rename_i h2
        exact walkF_has hok (findE_has hok h h2) e
      · cases e
    · cases e
def findS : ByteArray := ByteArray.mk #[102, 105, 110, 100]
def aFind (fr : Bool) (s : FSt) : Except (Int × ByteArray) Int → AV
  | .ok t => .tup [.fp fr (eNds fr s.nodes) (plc s.nodes t * 6), .v .nilIface]
  | .error (cd, x) => .tup [.v (.pointer none), aWrp findS true cd x]
set_option maxHeartbeats 1000000 in
theorem find_spec (fr : Bool) (s : FSt) (p : ByteArray) (l : List ByteArray) (nb : Nat) (hl : s.nodes.length ≤ 140737488355328) (hb : ∀ n ∈ s.nodes, n.entries.length ≤ 140737488355328 ∧ n.file.blocks.length ≤ 140737488355328)
    (hS : ∀ nb, ASound Tryz.prog 110 [.v (.string p)] nb (.ret (.tup [fS true l, .v (.int .i64 0)]) [])) (hc : chkFs s = 0) (hll : l.length ≤ 140737488355328) :
    ASound Tryz.prog 78 [aFs fr s, .v (.string p)] nb (.ret (aFind fr s (walkF s 1 l)) []) := by
  refine ok_FDc.sound (by simp) ⟨al_aFs s, trivial, trivial⟩ ?_
  obtain ⟨hok, h1⟩ := chk_ok hc (fun n hn => (hb n hn).1)
  have hk := fun nb => fsCheck_spec fr s nb hl hb
  have hw := fun nb => walk_spec true fr true s l nb hl hok h1 hll
  rw [hc] at hk
  simp only [aFs, fNds] at hk
  simp only [pFs, fNds] at hw
  simp only [ac_FDc, aFs, fNds, TT, ↓reduceIte, Nat.reduceEqDiff, Nat.reduceAdd, Nat.reduceMul, reduceCtorEq, Nat.reduceLeDiff]
  refine ⟨⟨envOf [(1, .v (.string p)), (2, pFs true fr s)], heapOf [], 300000⟩, Weak.freezeC 0 rfl (l := [(1, .v (.string p)), (2, pFs true fr s)]) (h := []) ?_ ?_, ?_⟩
  · simp [WT, pFs, fNds, okF, fzV, fzOne]
  · trivial
  simp only [ac_FD1, pFs, fNds, TT, ↓reduceIte, Nat.reduceEqDiff, Nat.reduceAdd, Nat.reduceMul, reduceCtorEq, Nat.reduceLeDiff]
  refine ⟨_, hk _, ?_⟩
  simp only [decide_true, Bool.not_true, TT, ↓reduceIte, Nat.reduceEqDiff, Nat.reduceAdd, Nat.reduceMul, reduceCtorEq, Nat.reduceLeDiff]
  refine ⟨_, hS _, ?_⟩
  simp only [decide_true, Bool.not_true, TT, ↓reduceIte, Nat.reduceEqDiff, Nat.reduceAdd, Nat.reduceMul, reduceCtorEq, Nat.reduceLeDiff]
  refine ⟨_, hw _, ?_⟩
  cases hr : walkF s 1 l with
  | ok t =>
    have ht := walkF_has hok h1 hr
    have hn := fun nb => node_spec true fr s t nb hl ht.1
    simp only [pFs, fNds] at hn
    simp only [aWalk, TT, ↓reduceIte, Nat.reduceEqDiff, Nat.reduceAdd, Nat.reduceMul, reduceCtorEq, Nat.reduceLeDiff]
    refine ⟨_, hn _, ?_⟩
    simp only [TT, ↓reduceIte, Nat.reduceEqDiff, Nat.reduceAdd, Nat.reduceMul, reduceCtorEq, Nat.reduceLeDiff]
    exact Ends.data (.inr rfl) (by simp [ET, aFind]) ⟨al_Nds _, trivial, trivial⟩
  | error q =>
    obtain ⟨cd, x⟩ := q
    have hwr := fun nb => wrap_spec findS true cd x nb
    simp only [findS, aFlt, aWrp] at hwr
    simp only [aWalk, TT, ↓reduceIte, Nat.reduceEqDiff, Nat.reduceAdd, Nat.reduceMul, reduceCtorEq, Nat.reduceLeDiff]
    refine ⟨_, hwr _, ?_⟩
    simp only [TT, ↓reduceIte, Nat.reduceEqDiff, Nat.reduceAdd, Nat.reduceMul, reduceCtorEq, Nat.reduceLeDiff]
    exact Ends.data (.inr rfl) (by simp [ET, aFind, aWrp, findS]) ⟨trivial, ⟨trivial, ⟨trivial, trivial, trivial⟩, trivial⟩, trivial⟩
end Go.Proofs.YtonglhkiobibgaaGreatDoor
