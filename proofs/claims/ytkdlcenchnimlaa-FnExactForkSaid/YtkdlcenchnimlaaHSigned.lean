/- IsSigned, the program's and the reference's: whether a list of heads has one of this size and root. -/
import Derived.Test.YtkdlcenchnimlaaHHeadS
import Derived.Test.YtkdlcenchnimlaaQ12
namespace Go.Proofs.Ytkdlcenchnimlaa.Q
open Go.RowKit Go.Proofs.Ytkdlcenchnimlaa.B Go.Proofs.YtkdlcenchnimlaaW.PrintWords

def hasHead (l : List IHead) (a : Int) (b : ByteArray) : Bool := l.any fun x => x.f0 == a && (x.f1.toList == b.toList)

theorem rdI {l : List IHead} {i : Nat} {x : IHead} (h : l[i]? = some x) : rd_T26 l (i : Int) = x := by
  unfold rd_T26
  simp [List.getD_eq_getElem?_getD, h]
theorem next64 {i n : Nat} (h : i < n) (hn : n ≤ 9223372036854775807) : wrap64 ((i : Int) + 1) = ((i + 1 : Nat) : Int) := by
  rw [w64 (by omega) (by omega)]
  omega

theorem spec_IsSigned_ev (l : List IHead) (a : Int) (b : ByteArray) (hl : l.length ≤ 9223372036854775807) : Ev (fun k => spec_IsSigned.f k l a b) (hasHead l a b) := by
  have main : ∀ (d i : Nat), i + d = l.length → Ev (fun k => spec_IsSigned.l0 k l (i : Int) a b) (hasHead (l.drop i) a b) := by
    intro d
    induction d with
    | zero =>
      intro i hi
      refine Ev.step (f := fun _ => some false) (fun k => ?_) (Ev.one (Ev.now _) ?_)
      · simp only [spec_IsSigned.l0]
        rw [if_neg (by omega)]
      · rw [List.drop_of_length_le (by omega)]
        rfl
    | succ d ih =>
      intro i hi
      obtain ⟨x, hx⟩ := get_some (l := l) (i := i) (by omega)
      by_cases h : (x.f0 == a && (x.f1.toList == b.toList)) = true
      · refine Ev.step (f := fun _ => some true) (fun k => ?_) (Ev.one (Ev.now _) ?_)
        · simp only [spec_IsSigned.l0]
          rw [if_pos (by omega), if_pos (by omega), rdI hx, if_pos h]
        · rw [drop_one hx]
          simp only [hasHead, List.any_cons, h, Bool.true_or]
      · refine Ev.step (fun k => ?_) (Ev.one (ih (i + 1) (by omega)) ?_)
        · simp only [spec_IsSigned.l0]
          rw [if_pos (by omega), if_pos (by omega), rdI hx, if_neg h, next64 (show i < l.length by omega) hl]
        · rw [drop_one hx]
          simp only [hasHead, List.any_cons, Bool.eq_false_iff.mpr h, Bool.false_or]
  exact main l.length 0 (by omega)

theorem impl_Index_ev (l : List IHead) (a : Int) (b : ByteArray) (hl : l.length ≤ 9223372036854775807) : ∃ r, Ev (fun k => impl_Head_78.f k l a b) r ∧ decide (r ≥ 0) = hasHead l a b := by
  have main : ∀ (d i : Nat), i + d = l.length → ∃ r, Ev (fun k => impl_Head_78.l0 k l (l.length : Int) (i : Int) a b) r ∧ decide (r ≥ 0) = hasHead (l.drop i) a b := by
    intro d
    induction d with
    | zero =>
      intro i hi
      refine ⟨-1, Ev.step (f := fun _ => some (-1)) (fun k => ?_) (Ev.now _), ?_⟩
      · simp only [impl_Head_78.l0]
        rw [if_neg (by omega)]
      · rw [List.drop_of_length_le (by omega)]
        rfl
    | succ d ih =>
      intro i hi
      obtain ⟨x, hx⟩ := get_some (l := l) (i := i) (by omega)
      have hsym : (a == x.f0 && (b.toList == x.f1.toList)) = (x.f0 == a && (x.f1.toList == b.toList)) := by
        rw [Bool.beq_comm (a := a), Bool.beq_comm (a := b.toList)]
      by_cases h : (x.f0 == a && (x.f1.toList == b.toList)) = true
      · refine ⟨(i : Int), Ev.step (f := fun _ => some (i : Int)) (fun k => ?_) (Ev.now _), ?_⟩
        · simp only [impl_Head_78.l0]
          rw [if_pos (by omega), if_pos (by omega), if_pos (by omega), rdI hx, hsym, if_pos h]
        · rw [drop_one hx]
          simp only [hasHead, List.any_cons, h, Bool.true_or]
          exact decide_eq_true (by omega)
      · obtain ⟨r, h1, h2⟩ := ih (i + 1) (by omega)
        refine ⟨r, Ev.step (fun k => ?_) h1, ?_⟩
        · simp only [impl_Head_78.l0]
          rw [if_pos (by omega), if_pos (by omega), if_pos (by omega), rdI hx, hsym, if_neg h, next64 (show i < l.length by omega) hl]
        · rw [h2, drop_one hx]
          simp only [hasHead, List.any_cons, Bool.eq_false_iff.mpr h, Bool.false_or]
  obtain ⟨r, h1, h2⟩ := main l.length 0 (by omega)
  exact ⟨r, h1, h2⟩

theorem impl_IsSigned_ev (l : List IHead) (a : Int) (b : ByteArray) (hl : l.length ≤ 9223372036854775807) : Ev (fun k => impl_IsSigned.f k l a b) (hasHead l a b) := by
  obtain ⟨r, h1, h2⟩ := impl_Index_ev l a b hl
  refine Ev.congr (fun k => by unfold impl_IsSigned.f impl_Head_60.f; rfl) ?_
  refine Ev.bind (Ev.bind h1 (Ev.now _)) ?_
  rw [h2]
  exact Ev.now _
end Go.Proofs.Ytkdlcenchnimlaa.Q
