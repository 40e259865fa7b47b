/- What the laws' own helpers do with lists of heads: the copy of a list has its heads; a list equals itself; its weight. -/
import Derived.Test.YtkdlcenchnimlaaHHead
import Derived.Test.YtkdlcenchnimlaaQ3
import Derived.Test.YtkdlcenchnimlaaQ5
import Derived.Test.YtkdlcenchnimlaaQ7
import Derived.Test.YtkdlcenchnimlaaQOpen
namespace Go.Proofs.Ytkdlcenchnimlaa.Q
open Go.RowKit Go.Proofs.Ytkdlcenchnimlaa.B Go.Proofs.YtkdlcenchnimlaaW.PrintWords

abbrev LHead := S23
abbrev IHead := S26
def cvHead (x : LHead) : IHead := ⟨x.f0, x.f1⟩

theorem szHeadS_ev (l : List LHead) (left : Int) (h0 : 0 ≤ left) (h1 : left ≤ 1048576) (hl : l.length ≤ 9223372036854775807) (hg : ∀ x ∈ l, x.f1.size ≤ 9223372036854775807) :
    ∃ r, Ev (fun k => laws_szHeadS.f k l left) r ∧ (r < 0 ∨ 0 ≤ r ∧ r + l.length ≤ left ∧ ∀ x ∈ l, (x.f1.size : Int) ≤ left) := by
  have main : ∀ (d i : Nat) (q : Int), i + d = l.length → 0 ≤ q → q ≤ 1048576 → ∃ r, Ev (fun k => laws_szHeadS.l0 k l q (i : Int)) r ∧ (r < 0 ∨ 0 ≤ r ∧ r ≤ q ∧ ∀ x ∈ l.drop i, (x.f1.size : Int) ≤ q) := by
    intro d
    induction d with
    | zero =>
      intro i q hi hq hq1
      refine ⟨q, Ev.step (f := fun _ => some q) (fun k => ?_) (Ev.now q), .inr ⟨hq, Int.le_refl _, ?_⟩⟩
      · simp only [laws_szHeadS.l0]
        rw [if_neg (by omega)]
      · rw [List.drop_of_length_le (by omega)]
        exact fun x hx => absurd hx (by simp)
    | succ d ih =>
      intro i q hi hq hq1
      obtain ⟨x, hx⟩ := get_some (l := l) (i := i) (by omega)
      have hm : x ∈ l := List.mem_of_getElem? hx
      obtain ⟨r, hr, hc⟩ := szHead_eq x.f0 x.f1 q hq hq1 (hg x hm)
      have hrd : rd_T23 l (i : Int) = x := by
        unfold rd_T23
        simp [List.getD_eq_getElem?_getD, hx]
      have hw : wrap64 ((i : Int) + 1) = ((i + 1 : Nat) : Int) := by
        rw [w64 (by omega) (by omega)]
        omega
      rcases hc with hc | ⟨hc, hc2⟩
      · refine ⟨-1, Ev.step (f := fun _ => some (-1)) (fun k => ?_) (Ev.now _), .inl (by omega)⟩
        simp only [laws_szHeadS.l0]
        rw [if_pos (by omega), if_pos (by omega), hrd, hr]
        simp only [Option.bind_some]
        rw [if_pos hc]
      · obtain ⟨r2, h2, h3⟩ := ih (i + 1) r (by omega) hc (by omega)
        refine ⟨r2, Ev.step (fun k => ?_) h2, ?_⟩
        · simp only [laws_szHeadS.l0]
          rw [if_pos (by omega), if_pos (by omega), hrd, hr]
          simp only [Option.bind_some]
          rw [if_neg (by omega), hw]
        · rcases h3 with h3 | ⟨h3, h4, h5⟩
          · exact .inl h3
          · refine .inr ⟨h3, by omega, fun y hy => ?_⟩
            rw [drop_one hx] at hy
            rcases List.mem_cons.1 hy with rfl | hy
            · omega
            · have := h5 y hy
              omega
  have hw : wrap64 (left - (l.length : Int)) = left - (l.length : Int) := w64 (by omega) (by omega)
  by_cases h : left - (l.length : Int) < 0
  · refine ⟨-1, Ev.congr (fun k => ?_) (Ev.now (-1)), .inl (by omega)⟩
    unfold laws_szHeadS.f
    rw [hw, if_pos h]
  · obtain ⟨r, h2, h3⟩ := main l.length 0 (left - l.length) (by omega) (by omega) (by omega)
    refine ⟨r, Ev.congr (fun k => ?_) h2, ?_⟩
    · unfold laws_szHeadS.f
      rw [hw, if_neg h]
      rfl
    · rcases h3 with h3 | ⟨h3, h4, h5⟩
      · exact .inl h3
      · refine .inr ⟨h3, by omega, fun x hx => ?_⟩
        have := h5 x (by simpa using hx)
        omega

theorem toHeadS_ev (l : List LHead) (hl : l.length ≤ 1048576) : Ev (fun k => laws_toHeadS.f k l) (l.map cvHead) := by
  have main : ∀ (d i : Nat) (acc : List IHead), i + d = l.length → acc.length = l.length → acc.take i = (l.take i).map cvHead → Ev (fun k => laws_toHeadS.l0 k l acc (i : Int)) (l.map cvHead) := by
    intro d
    induction d with
    | zero =>
      intro i acc hi ha ht
      refine Ev.step (f := fun _ => some (l.map cvHead)) (fun k => ?_) (Ev.now _)
      simp only [laws_toHeadS.l0]
      rw [if_neg (by omega)]
      rw [List.take_of_length_le (by omega), List.take_of_length_le (by omega)] at ht
      rw [ht]
    | succ d ih =>
      intro i acc hi ha ht
      obtain ⟨x, hx⟩ := get_some (l := l) (i := i) (by omega)
      have hrd : rd_T23 l (i : Int) = x := by
        unfold rd_T23
        simp [List.getD_eq_getElem?_getD, hx]
      have hw : wrap64 ((i : Int) + 1) = ((i + 1 : Nat) : Int) := by
        rw [w64 (by omega) (by omega)]
        omega
      refine Ev.step (fun k => ?_) (ih (i + 1) (acc.set i (cvHead x)) (by omega) (by simp [ha]) ?_)
      · simp only [laws_toHeadS.l0]
        rw [if_pos (by omega), if_pos (by omega), hrd, toHead_eq]
        simp only [Option.bind_some]
        rw [if_pos (by omega), hw]
        rfl
      · rw [set_take _ (by omega), ht, take_one hx, List.map_append]
        rfl
  refine Ev.congr (fun k => ?_) (main l.length 0 (List.replicate l.length z26) (by omega) (by simp) (by simp))
  unfold laws_toHeadS.f
  rw [if_pos (by omega), if_pos (by simp; omega)]
  rfl

theorem eqHeadS_ev (l : List IHead) (hl : l.length ≤ 9223372036854775807) : Ev (fun k => laws_eqHeadS.f k l l) true := by
  have main : ∀ (d i : Nat), i + d = l.length → Ev (fun k => laws_eqHeadS.l0 k l l (i : Int)) true := by
    intro d
    induction d with
    | zero =>
      intro i hi
      refine Ev.step (f := fun _ => some true) (fun k => ?_) (Ev.now _)
      simp only [laws_eqHeadS.l0]
      rw [if_neg (by omega)]
    | succ d ih =>
      intro i hi
      have hw : wrap64 ((i : Int) + 1) = ((i + 1 : Nat) : Int) := by
        rw [w64 (by omega) (by omega)]
        omega
      refine Ev.step (fun k => ?_) (ih (i + 1) (by omega))
      simp only [laws_eqHeadS.l0]
      rw [if_pos (by omega), if_pos (by omega), if_pos (by omega), eqHead_eq]
      simp only [Option.bind_some, if_true]
      rw [hw]
  refine Ev.congr (fun k => ?_) (main l.length 0 (by omega))
  unfold laws_eqHeadS.f
  rw [if_pos rfl]
  rfl
end Go.Proofs.Ytkdlcenchnimlaa.Q
