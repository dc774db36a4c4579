/- For every seq, live and next: clean.Score with fewer live blocks is never less, and of a younger segment never more; a refused call tells 0. -/
import Derived.Test.YtfoeddmbhmfjcaaPCleanScoresx1
namespace Go.Proofs.Ytfoeddmbhmfjcaa.Pure
open Go.RowKit Go.Proofs.Ytfoeddmbhmfjcaa.PCleanScores Go.Proofs.YtfoeddmbhmfjcaaW.PrintWords Go.Proofs.YtfoeddmbhmfjcaaW.PrintLast

/-- the score, where it is told -/
def sc (a b c : Int) : Int := 64 * (8 - b) * (c - a) / (8 + b)

theorem within_f (n l h : Int) : clean_within.f n l h = some (decide (l ≤ n ∧ n ≤ h)) := by
  unfold clean_within.f
  by_cases h1 : l ≤ n
  · rw [if_pos h1]; simp [h1]
  · rw [if_neg h1]; simp [h1]

def okS (a b c : Int) : Prop := 1 ≤ a ∧ a ≤ 1099511627776 ∧ 0 ≤ b ∧ b ≤ 8 ∧ a ≤ c ∧ c ≤ 1099511627776

theorem wrap_id (x : Int) (h : -9223372036854775808 ≤ x) (h2 : x ≤ 9223372036854775807) : wrap64 x = x := by
  unfold wrap64; omega

theorem prod_bd (p q : Int) (hp : 0 ≤ p) (hp2 : p ≤ 512) (hq : 0 ≤ q) (hq2 : q ≤ 1099511627776) : 0 ≤ p * q ∧ p * q ≤ 562949953421312 := by
  refine ⟨Int.mul_nonneg hp hq, ?_⟩
  have h1 : p * q ≤ 512 * q := Int.mul_le_mul_of_nonneg_right hp2 hq
  omega

theorem score_ok (a b c : Int) (h : okS a b c) : clean_Score.f a b c = some (sc a b c, 0) := by
  obtain ⟨h1, h2, h3, h4, h5, h6⟩ := h
  unfold clean_Score.f
  simp only [within_f, Option.bind_some]
  rw [if_pos (by simp; omega), if_pos (by simp; omega), if_pos (by simp; omega)]
  have e1 : wrap64 (8 + b) = 8 + b := wrap_id _ (by omega) (by omega)
  have e2 : wrap64 (8 - b) = 8 - b := wrap_id _ (by omega) (by omega)
  have e3 : wrap64 (64 * (8 - b)) = 64 * (8 - b) := wrap_id _ (by omega) (by omega)
  have e4 : wrap64 (c - a) = c - a := wrap_id _ (by omega) (by omega)
  have hb := prod_bd (64 * (8 - b)) (c - a) (by omega) (by omega) (by omega) (by omega)
  rw [e1, e2, e3, e4, wrap_id (64 * (8 - b) * (c - a)) (by omega) (by omega)]
  rw [if_neg (by omega)]
  have hd : Int.tdiv (64 * (8 - b) * (c - a)) (8 + b) = sc a b c := by
    unfold sc; rw [Int.tdiv_eq_ediv_of_nonneg hb.1]
  rw [hd]
  have hs1 : 0 ≤ sc a b c := by unfold sc; exact Int.ediv_nonneg hb.1 (by omega)
  have hs2 : sc a b c ≤ 64 * (8 - b) * (c - a) := by unfold sc; exact Int.ediv_le_self _ hb.1
  rw [wrap_id _ (by omega) (by omega)]

theorem score_no (a b c : Int) (h : ¬ okS a b c) : clean_Score.f a b c = some (0, 4) := by
  unfold clean_Score.f
  simp only [within_f, Option.bind_some]
  by_cases g1 : 1 ≤ a ∧ a ≤ 1099511627776
  · rw [if_pos (by simp; omega)]
    by_cases g2 : 0 ≤ b ∧ b ≤ 8
    · rw [if_pos (by simp; omega)]
      rw [if_neg]
      intro g3
      simp at g3
      exact h ⟨g1.1, g1.2, g2.1, g2.2, g3.1, g3.2⟩
    · rw [if_neg (by simpa using g2)]
  · rw [if_neg (by simpa using g1)]

theorem sc_live (a b c : Int) (h : okS a b c) : sc a b c ≤ sc a (mx (b - 1) 0) c := by
  obtain ⟨h1, h2, h3, h4, h5, h6⟩ := h
  have : b = 0 ∨ b = 1 ∨ b = 2 ∨ b = 3 ∨ b = 4 ∨ b = 5 ∨ b = 6 ∨ b = 7 ∨ b = 8 := by omega
  unfold sc mx
  rcases this with rfl | rfl | rfl | rfl | rfl | rfl | rfl | rfl | rfl <;> simp <;> omega

theorem sc_seq (a b c : Int) (h : okS a b c) : sc (mn (a + 1) c) b c ≤ sc a b c := by
  obtain ⟨h1, h2, h3, h4, h5, h6⟩ := h
  have : b = 0 ∨ b = 1 ∨ b = 2 ∨ b = 3 ∨ b = 4 ∨ b = 5 ∨ b = 6 ∨ b = 7 ∨ b = 8 := by omega
  unfold sc mn
  rcases this with rfl | rfl | rfl | rfl | rfl | rfl | rfl | rfl | rfl <;> simp <;> split <;> omega

theorem alive_f : undercroftlaw16_alive.f = some true := by
  unfold undercroftlaw16_alive.f
  rw [score_ok 1 2 9 ⟨by decide, by decide, by decide, by decide, by decide, by decide⟩]
  simp only [Option.bind_some, undercroftlaw16_num.f]
  decide

/-- YOURS: the statement over numbers. -/
theorem CleanScores : undercroftlaw16_CleanScores.Pure := by
  intro a b c _ _ _
  unfold undercroftlaw16_CleanScores.f
  rw [alive_f]
  simp only [Option.bind_some, if_true, undercroftlaw16_num.f]
  by_cases h : okS a b c
  · rw [score_ok a b c h]
    simp only [Option.bind_some, if_true]
    have h' := h
    obtain ⟨h1, h2, h3, h4, h5, h6⟩ := h'
    rw [wrap_id (b - 1) (by omega) (by omega), wrap_id (a + 1) (by omega) (by omega)]
    have o1 : okS a (mx (b - 1) 0) c := by unfold okS mx; omega
    have o2 : okS (mn (a + 1) c) b c := by unfold okS mn; omega
    rw [score_ok _ _ _ o1, score_ok _ _ _ o2]
    simp only [Option.bind_some]
    rw [if_pos (show wrap64 (0 + 0) = 0 from wrap_id _ (by omega) (by omega)), if_pos (sc_live a b c h), if_pos (sc_seq a b c h)]
    by_cases g : b < 8
    · rw [if_pos g]
    · rw [if_neg g]
      obtain rfl : b = 8 := by omega
      simp [sc]
  · rw [score_no a b c h]
    simp

end Go.Proofs.Ytfoeddmbhmfjcaa.Pure
