/- Fork, the program's and the reference's: they tell the same; what they tell, if they do, is two of the list, of one size, with unlike roots. -/
import Derived.Test.YtkdlcenchnimlaaHSigned
import Derived.Test.YtkdlcenchnimlaaQ4
import Derived.Test.YtkdlcenchnimlaaQ6
namespace Go.Proofs.Ytkdlcenchnimlaa.Q
open Go.RowKit Go.Proofs.Ytkdlcenchnimlaa.B Go.Proofs.YtkdlcenchnimlaaW.PrintWords

def ForkOk (l : List IHead) (r : Int × ByteArray × Int × ByteArray × Bool) : Prop :=
  r.2.2.2.2 = true → ∃ a b, a ∈ l ∧ b ∈ l ∧ r = (a.f0, a.f1, b.f0, b.f1, true) ∧ a.f0 = b.f0 ∧ ¬ a.f1.toList = b.f1.toList

theorem fork_ev (l : List IHead) (hl : l.length ≤ 9223372036854775807) : ∃ r, Ev (fun k => spec_Fork.f k l) r ∧ Ev (fun k => impl_Fork.f k l) r ∧ ForkOk l r := by
  have inner : ∀ (i : Nat) (x : IHead), l[i]? = some x → ∀ (r : Int × ByteArray × Int × ByteArray × Bool), ForkOk l r → Ev (fun k => spec_Fork.l0 k l ((i + 1 : Nat) : Int)) r → Ev (fun k => impl_Fork.l0 k l l (l.length : Int) ((i + 1 : Nat) : Int)) r →
      ∀ (e j : Nat), j + e = i → ∃ r, Ev (fun k => spec_Fork.l1 k l (i : Int) (j : Int)) r ∧ Ev (fun k => impl_Fork.l1 k l l (l.length : Int) (i : Int) (l.take i) ((l.take i).length : Int) (j : Int) x.f0 x.f1) r ∧ ForkOk l r := by
    intro i x hx r hok hs hi e
    have hil : i < l.length := (List.getElem?_eq_some_iff.1 hx).1
    have htl : (l.take i).length = i := by simp; omega
    induction e with
    | zero =>
      intro j hj
      refine ⟨r, Ev.step (fun k => ?_) hs, Ev.step (fun k => ?_) hi, hok⟩
      · simp only [spec_Fork.l1]
        rw [if_neg (by omega), next64 hil hl]
      · simp only [impl_Fork.l1]
        rw [if_neg (by omega), next64 hil hl]
    | succ e ih =>
      intro j hj
      obtain ⟨y, hy⟩ := get_some (l := l) (i := j) (by omega)
      have hy2 : (l.take i)[j]? = some y := by rw [List.getElem?_take, if_pos (by omega)]; exact hy
      obtain ⟨r2, h1, h2, h3⟩ := ih (j + 1) (by omega)
      by_cases c : y.f0 = x.f0
      · by_cases c2 : y.f1.toList = x.f1.toList
        · refine ⟨r2, Ev.step (fun k => ?_) h1, Ev.step (fun k => ?_) h2, h3⟩
          · simp only [spec_Fork.l1]
            rw [if_pos (by omega), if_pos (by omega), if_pos (by omega), if_pos (by omega), if_pos (by omega), rdI hy, rdI hx, if_pos c, if_pos c2, next64 (show j < l.length by omega) hl]
          · simp only [impl_Fork.l1]
            rw [if_pos (by omega), if_pos (by omega), if_pos (by omega), rdI hy2, if_pos c, if_pos c2, next64 (show j < l.length by omega) hl]
        · refine ⟨(y.f0, y.f1, x.f0, x.f1, true), Ev.step (f := fun _ => some (y.f0, y.f1, x.f0, x.f1, true)) (fun k => ?_) (Ev.now _), Ev.step (f := fun _ => some (y.f0, y.f1, x.f0, x.f1, true)) (fun k => ?_) (Ev.now _), fun _ => ⟨y, x, List.mem_of_getElem? hy, List.mem_of_getElem? hx, rfl, c, c2⟩⟩
          · simp only [spec_Fork.l1]
            rw [if_pos (by omega), if_pos (by omega), if_pos (by omega), if_pos (by omega), if_pos (by omega), rdI hy, rdI hx, if_pos c, if_neg c2]
          · simp only [impl_Fork.l1]
            rw [if_pos (by omega), if_pos (by omega), if_pos (by omega), rdI hy2, if_pos c, if_neg c2]
      · refine ⟨r2, Ev.step (fun k => ?_) h1, Ev.step (fun k => ?_) h2, h3⟩
        · simp only [spec_Fork.l1]
          rw [if_pos (by omega), if_pos (by omega), if_pos (by omega), if_pos (by omega), if_pos (by omega), rdI hy, rdI hx, if_neg c, next64 (show j < l.length by omega) hl]
        · simp only [impl_Fork.l1]
          rw [if_pos (by omega), if_pos (by omega), if_pos (by omega), rdI hy2, if_neg c, next64 (show j < l.length by omega) hl]
  have outer : ∀ (d i : Nat), i + d = l.length → ∃ r, Ev (fun k => spec_Fork.l0 k l (i : Int)) r ∧ Ev (fun k => impl_Fork.l0 k l l (l.length : Int) (i : Int)) r ∧ ForkOk l r := by
    intro d
    induction d with
    | zero =>
      intro i hi
      refine ⟨(0, ⟨#[]⟩, 0, ⟨#[]⟩, false), Ev.step (f := fun _ => some (0, ⟨#[]⟩, 0, ⟨#[]⟩, false)) (fun k => ?_) (Ev.now _), Ev.step (f := fun _ => some (0, ⟨#[]⟩, 0, ⟨#[]⟩, false)) (fun k => ?_) (Ev.now _), fun h => by cases h⟩
      · simp only [spec_Fork.l0]
        rw [if_neg (by omega)]
      · simp only [impl_Fork.l0]
        rw [if_neg (by omega)]
    | succ d ih =>
      intro i hi
      obtain ⟨x, hx⟩ := get_some (l := l) (i := i) (by omega)
      obtain ⟨r, h1, h2, h3⟩ := ih (i + 1) (by omega)
      obtain ⟨r2, g1, g2, g3⟩ := inner i x hx r h3 h1 h2 i 0 (by omega)
      refine ⟨r2, Ev.step (fun k => ?_) g1, Ev.step (fun k => ?_) g2, g3⟩
      · simp only [spec_Fork.l0]
        rw [if_pos (by omega)]
        rfl
      · simp only [impl_Fork.l0]
        rw [if_pos (by omega), if_pos (by omega), if_pos (by omega), if_pos (by omega), rdI hx]
        rfl
  obtain ⟨r, h1, h2, h3⟩ := outer l.length 0 (by omega)
  exact ⟨r, h1, h2, h3⟩
end Go.Proofs.Ytkdlcenchnimlaa.Q
