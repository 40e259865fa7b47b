/- BestHead, the program's and the reference's: the first of the greatest. -/
import Derived.Test.YtkdlcenchnimlaaHSigned
import Derived.Test.YtkdlcenchnimlaaQ9
import Derived.Test.YtkdlcenchnimlaaQ10
namespace Go.Proofs.Ytkdlcenchnimlaa.Q
open Go.RowKit Go.Proofs.Ytkdlcenchnimlaa.B Go.Proofs.YtkdlcenchnimlaaW.PrintWords

def bestStep (b h : IHead) : IHead := if h.f0 > b.f0 then h else b
def bestHead : List IHead → IHead
  | [] => ⟨0, ⟨#[]⟩⟩
  | h :: t => t.foldl bestStep h

theorem spec_BestHead_ev (l : List IHead) (hl : l.length ≤ 9223372036854775807) : Ev (fun k => spec_BestHead.f k l) ((bestHead l).f0, (bestHead l).f1) := by
  have main : ∀ (d i : Nat) (b : IHead), i + d = l.length → Ev (fun k => spec_BestHead.l0 k l (i : Int) b.f0 b.f1) (((l.drop i).foldl bestStep b).f0, ((l.drop i).foldl bestStep b).f1) := by
    intro d
    induction d with
    | zero =>
      intro i b hi
      refine Ev.step (f := fun _ => some (b.f0, b.f1)) (fun k => ?_) (Ev.one (Ev.now _) ?_)
      · simp only [spec_BestHead.l0]
        rw [if_neg (by omega)]
      · rw [List.drop_of_length_le (by omega)]
        rfl
    | succ d ih =>
      intro i b hi
      obtain ⟨x, hx⟩ := get_some (l := l) (i := i) (by omega)
      rw [drop_one hx, List.foldl_cons]
      by_cases h : x.f0 > b.f0
      · have e : bestStep b x = x := if_pos h
        rw [e]
        refine Ev.step (fun k => ?_) (ih (i + 1) x (by omega))
        simp only [spec_BestHead.l0]
        rw [if_pos (by omega), if_pos (by omega), rdI hx, if_pos h, next64 (show i < l.length by omega) hl]
      · have e : bestStep b x = b := if_neg h
        rw [e]
        refine Ev.step (fun k => ?_) (ih (i + 1) b (by omega))
        simp only [spec_BestHead.l0]
        rw [if_pos (by omega), if_pos (by omega), rdI hx, if_neg h, next64 (show i < l.length by omega) hl]
  cases l with
  | nil =>
    refine Ev.congr (fun k => ?_) (Ev.now _)
    unfold spec_BestHead.f
    rfl
  | cons h t =>
    refine Ev.congr (fun k => ?_) (main t.length 1 h (by simp; omega))
    unfold spec_BestHead.f
    rw [if_neg (by simp; omega), if_pos (by simp)]
    rfl

theorem impl_BestHead_ev (l : List IHead) (hl : l.length ≤ 9223372036854775807) : Ev (fun k => impl_BestHead.f k l) ((bestHead l).f0, (bestHead l).f1) := by
  have main : ∀ (d i : Nat) (b : IHead), 1 ≤ i → i + d = l.length → Ev (fun k => impl_BestHead.l0 k l (l.length : Int) (i : Int) b.f0 b.f1) (((l.drop i).foldl bestStep b).f0, ((l.drop i).foldl bestStep b).f1) := by
    intro d
    induction d with
    | zero =>
      intro i b h1 hi
      refine Ev.step (f := fun _ => some (b.f0, b.f1)) (fun k => ?_) (Ev.one (Ev.now _) ?_)
      · simp only [impl_BestHead.l0]
        rw [if_neg (by omega)]
      · rw [List.drop_of_length_le (by omega)]
        rfl
    | succ d ih =>
      intro i b h1 hi
      obtain ⟨x, hx⟩ := get_some (l := l) (i := i) (by omega)
      rw [drop_one hx, List.foldl_cons]
      by_cases h : x.f0 > b.f0
      · have e : bestStep b x = x := if_pos h
        rw [e]
        refine Ev.step (fun k => ?_) (ih (i + 1) x (by omega) (by omega))
        simp only [impl_BestHead.l0]
        rw [if_pos (by omega), if_pos (by omega), if_pos (by omega), if_neg (by omega), rdI hx, if_pos h, next64 (show i < l.length by omega) hl]
      · have e : bestStep b x = b := if_neg h
        rw [e]
        refine Ev.step (fun k => ?_) (ih (i + 1) b (by omega) (by omega))
        simp only [impl_BestHead.l0]
        rw [if_pos (by omega), if_pos (by omega), if_pos (by omega), if_neg (by omega), rdI hx, if_neg h, next64 (show i < l.length by omega) hl]
  cases l with
  | nil =>
    refine Ev.step (f := fun _ => some (0, ⟨#[]⟩)) (fun k => ?_) (Ev.now _)
    unfold impl_BestHead.f
    simp only [impl_BestHead.l0]
    rfl
  | cons h t =>
    refine Ev.step (fun k => ?_) (main t.length 1 h (by omega) (by simp; omega))
    unfold impl_BestHead.f
    simp only [impl_BestHead.l0]
    rw [if_pos (by simp), if_pos (by omega), if_pos (by simp), if_pos trivial, w64 (by omega) (by omega)]
    rfl
end Go.Proofs.Ytkdlcenchnimlaa.Q
