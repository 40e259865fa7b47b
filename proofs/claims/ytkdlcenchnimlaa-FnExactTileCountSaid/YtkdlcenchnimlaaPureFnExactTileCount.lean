/- The program's TileCount and the reference's TileCount return the same number for every pair of numbers; no condition. -/
import Derived.Test.YtkdlcenchnimlaaPFnExactTileCountx1
namespace Go.Proofs.Ytkdlcenchnimlaa.Pure
open Go.RowKit Go.Proofs.Ytkdlcenchnimlaa.PFnExactTileCount Go.Proofs.YtkdlcenchnimlaaW.PrintWords Go.Proofs.YtkdlcenchnimlaaW.PrintLast

theorem tc_spec_in (a b c : Int) : spec_l1In.f a b c = some (decide (b ≤ a ∧ a ≤ c)) := by
  unfold spec_l1In.f
  by_cases h : a ≥ b
  · rw [if_pos h]
    by_cases h2 : a ≤ c
    · rw [decide_eq_true h2, decide_eq_true ⟨h, h2⟩]
    · rw [decide_eq_false h2, decide_eq_false (fun q => h2 q.2)]
  · rw [if_neg h, decide_eq_false (fun q => h q.1)]

theorem tc_impl_in (a b c : Int) : impl_inRange.f a b c = some (decide (b ≤ a ∧ a ≤ c)) := tc_spec_in a b c

theorem tc_wrap (x : Int) (h0 : 0 ≤ x) (h1 : x ≤ 1000) : wrap64 x = x := by
  unfold wrap64
  omega

theorem tc_both (k : Nat) (a0 a1 t : Int) (h : 0 ≤ a0 ∧ a0 ≤ 200) (q : 0 ≤ a1 ∧ a1 ≤ 3) (ht : 1 ≤ t) (hl : t ≤ 64)
    (hs : spec_l9Span.f k a1 = some t) (hi : impl_spanOf.f a1 = some t) (hd : a0 / t ≤ 200) :
    laws_FnExactTileCount.f k a0 a1 = some true := by
  have d0 : 0 ≤ a0 / t := Int.ediv_nonneg h.1 (by omega)
  have e1 : Int.tdiv a0 t = a0 / t := Int.tdiv_eq_ediv_of_nonneg h.1
  have e2 : Int.tdiv (a0 / t + 3) 4 = (a0 / t + 3) / 4 := Int.tdiv_eq_ediv_of_nonneg (by omega)
  unfold laws_FnExactTileCount.f spec_TileCount.f impl_TileCount.f
  simp only [tc_spec_in, tc_impl_in, Option.bind_some, decide_eq_true h, decide_eq_true q, if_true, hs, hi]
  rw [if_neg (show ¬ t = 0 by omega)]
  simp only [Option.bind_some]
  rw [if_neg (show ¬ t = 0 by omega)]
  simp only [Option.bind_some, e1]
  rw [tc_wrap (a0 / t) d0 (by omega), tc_wrap (a0 / t + 3) (by omega) (by omega), tc_wrap (a0 / t + 4) (by omega) (by omega),
    tc_wrap (a0 / t + 4 - 1) (by omega) (by omega), show a0 / t + 4 - 1 = a0 / t + 3 by omega, e2]
  rw [if_pos rfl]

theorem FnExactTileCount : laws_FnExactTileCount.Pure := by
  intro a0 a1 _ _
  refine ⟨5, ?_⟩
  by_cases h : 0 ≤ a0 ∧ a0 ≤ 200
  · by_cases q : 0 ≤ a1 ∧ a1 ≤ 3
    · have hc : a1 = 0 ∨ a1 = 1 ∨ a1 = 2 ∨ a1 = 3 := by omega
      rcases hc with rfl | rfl | rfl | rfl
      · exact tc_both 5 a0 0 1 h q (by omega) (by omega) (by decide +kernel) (by decide +kernel) (by omega)
      · exact tc_both 5 a0 1 4 h q (by omega) (by omega) (by decide +kernel) (by decide +kernel) (by omega)
      · exact tc_both 5 a0 2 16 h q (by omega) (by omega) (by decide +kernel) (by decide +kernel) (by omega)
      · exact tc_both 5 a0 3 64 h q (by omega) (by omega) (by decide +kernel) (by decide +kernel) (by omega)
    · unfold laws_FnExactTileCount.f spec_TileCount.f impl_TileCount.f
      simp [tc_spec_in, tc_impl_in, decide_eq_true h, decide_eq_false q]
  · unfold laws_FnExactTileCount.f spec_TileCount.f impl_TileCount.f
    simp [tc_spec_in, tc_impl_in, decide_eq_false h]

end Go.Proofs.Ytkdlcenchnimlaa.Pure
