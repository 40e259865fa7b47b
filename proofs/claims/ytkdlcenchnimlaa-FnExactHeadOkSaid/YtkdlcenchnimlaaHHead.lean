/- What the laws' own helpers do with heads and lists of heads, and that the program's and the reference's HeadOk are one. -/
import Derived.Test.YtkdlcenchnimlaaBase
import Derived.Test.YtkdlcenchnimlaaQ2
import Derived.Test.YtkdlcenchnimlaaQ7
namespace Go.Proofs.Ytkdlcenchnimlaa.Q
open Go.RowKit Go.Proofs.Ytkdlcenchnimlaa.B Go.Proofs.YtkdlcenchnimlaaW.PrintWords

theorem spec_in_eq (a b c : Int) : spec_l1In.f a b c = some (decide (b ≤ a ∧ a ≤ c)) := by
  unfold spec_l1In.f
  by_cases h : a ≥ b
  · rw [if_pos h]
    by_cases h2 : a ≤ c
    · rw [decide_eq_true h2, decide_eq_true ⟨h, h2⟩]
    · rw [decide_eq_false h2, decide_eq_false (fun q => h2 q.2)]
  · rw [if_neg h, decide_eq_false (fun q => h q.1)]
theorem impl_in_eq (a b c : Int) : impl_inRange.f a b c = some (decide (b ≤ a ∧ a ≤ c)) := spec_in_eq a b c

theorem szHead_eq (n : Int) (s : ByteArray) (left : Int) (h0 : 0 ≤ left) (h1 : left ≤ 1048576) (hs : s.size ≤ 9223372036854775807) :
    ∃ r, laws_szHead.f n s left = some r ∧ (r < 0 ∨ 0 ≤ r ∧ r + s.size = left) := by
  unfold laws_szHead.f
  rw [w64 (by omega) (by omega)]
  by_cases h : left - (s.size : Int) < 0
  · exact ⟨-1, if_pos h, .inl (by omega)⟩
  · exact ⟨_, if_neg h, .inr ⟨by omega, by omega⟩⟩
theorem toHead_eq (n : Int) (s : ByteArray) : laws_toHead.f n s = some (n, s) := rfl
theorem eqHead_eq (n : Int) (s : ByteArray) : laws_eqHead.f n s n s = some true := by
  unfold laws_eqHead.f
  rw [if_pos rfl, if_pos rfl]
end Go.Proofs.Ytkdlcenchnimlaa.Q
