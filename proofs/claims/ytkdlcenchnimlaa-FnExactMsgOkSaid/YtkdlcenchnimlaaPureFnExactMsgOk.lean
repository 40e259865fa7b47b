/- The program's MsgOk and the reference's MsgOk return the same for every word; no condition. -/
import Derived.Test.YtkdlcenchnimlaaHStr
import Derived.Test.YtkdlcenchnimlaaLawFnExactMsgOk
namespace Go.Proofs.Ytkdlcenchnimlaa.Q
open Go.RowKit Go.Proofs.Ytkdlcenchnimlaa.B Go.Proofs.YtkdlcenchnimlaaW.PrintWords

theorem msgOk_j (b : Bool) (n0 n1 n2 n3 : Int) (s : ByteArray) (n5 : Int) (l : List ByteArray) : ∃ r, Ev (fun k => spec_MsgOk.j0 k b n0 n1 n2 n3 s n5 l) r ∧ Ev (fun k => impl_MsgOk.j0 k b n0 n1 n2 n3 s n5 l) r := by
  have hs : ∀ k, spec_MsgOk.j0 (k + 1) b n0 n1 n2 n3 s n5 l = spec_MsgOk.j0 1 b n0 n1 n2 n3 s n5 l := fun k => by simp only [spec_MsgOk.j0]
  have hi : ∀ k, impl_MsgOk.j0 (k + 1) b n0 n1 n2 n3 s n5 l = spec_MsgOk.j0 1 b n0 n1 n2 n3 s n5 l := fun k => by simp only [spec_MsgOk.j0, impl_MsgOk.j0]
  obtain ⟨r, hr⟩ : ∃ r, spec_MsgOk.j0 1 b n0 n1 n2 n3 s n5 l = some r := by
    simp only [spec_MsgOk.j0]
    repeat' split
    all_goals exact ⟨_, rfl⟩
  exact ⟨r, Ev.step (f := fun _ => some r) (fun k => (hs k).trans hr) (Ev.now _), Ev.step (f := fun _ => some r) (fun k => (hi k).trans hr) (Ev.now _)⟩

theorem headOk_same (n : Int) (s : ByteArray) : impl_HeadOk.f n s = spec_HeadOk.f n s := by
  unfold spec_HeadOk.f impl_HeadOk.f
  simp only [spec_in_eq, impl_in_eq]
theorem headOk_some (n : Int) (s : ByteArray) : ∃ r, spec_HeadOk.f n s = some r := by
  unfold spec_HeadOk.f
  simp only [spec_in_eq, Option.bind_some]
  split
  · exact ⟨_, rfl⟩
  · exact ⟨_, rfl⟩

theorem msgOk_ev (n0 n1 n2 n3 : Int) (s : ByteArray) (n5 : Int) (l : List ByteArray) : ∃ r, Ev (fun k => spec_MsgOk.f k n0 n1 n2 n3 s n5 l) r ∧ Ev (fun k => impl_MsgOk.f k n0 n1 n2 n3 s n5 l) r := by
  unfold spec_MsgOk.f impl_MsgOk.f impl_isId.f
  simp only [spec_in_eq, impl_in_eq, headOk_same, Option.bind_some]
  obtain ⟨q, hq⟩ := headOk_some n3 s
  rw [hq]
  simp only [Option.bind_some]
  by_cases c1 : decide (0 ≤ n1 ∧ n1 ≤ 20) = true
  · by_cases c2 : decide (0 ≤ n2 ∧ n2 ≤ 20) = true
    · simp only [if_pos c2, if_pos c1]
      by_cases c3 : n1 = n2
      · simp only [if_pos c3]
        exact msgOk_j _ _ _ _ _ _ _ _
      · simp only [if_neg c3]
        by_cases c4 : q = true
        · simp only [if_pos c4]
          exact msgOk_j _ _ _ _ _ _ _ _
        · simp only [if_neg c4]
          exact msgOk_j _ _ _ _ _ _ _ _
    · simp only [if_neg c2, if_pos c1]
      exact msgOk_j _ _ _ _ _ _ _ _
  · simp only [if_neg c1]
    exact msgOk_j _ _ _ _ _ _ _ _

theorem pure_FnExactMsgOk : laws_FnExactMsgOk.Pure := by
  intro x g
  obtain ⟨_, _, _, g3, _, g5⟩ := g
  refine Ev.rounds (g := fun k => laws_FnExactMsgOk.f k x.f0 x.f1 x.f2 x.f3.f0 x.f3.f1 x.f4 x.f5) ?_
  unfold laws_FnExactMsgOk.f laws_szMsg.f laws_toMsg.f
  obtain ⟨r, hr, hc⟩ := szHead_eq x.f3.f0 x.f3.f1 1048576 (by omega) (by omega) g3.2
  simp only [hr, toHead_eq, Option.bind_some]
  rcases hc with hc | ⟨hc, hc1⟩
  · simp only [if_pos hc, Option.bind_some]
    exact Ev.pos (by omega) (Ev.now _)
  · simp only [if_neg (show ¬ r < 0 by omega)]
    obtain ⟨r2, hr2, hc2⟩ := szStringS_ev x.f5 r hc (by omega) g5.1 g5.2
    rcases hc2 with hc2 | ⟨hc2, hc3⟩
    · refine Ev.bind (Ev.bind hr2 (Ev.pos hc2 (Ev.now (-1)))) ?_
      exact Ev.pos (by omega) (Ev.now _)
    · have ht := total_nonneg x.f5
      refine Ev.bind (Ev.bind hr2 (Ev.neg (by omega) (Ev.now r2))) ?_
      refine Ev.neg (by omega) ?_
      have hT := toStringS_ev x.f5 (by omega)
      obtain ⟨q, h1, h2⟩ := msgOk_ev x.f0 x.f1 x.f2 x.f3.f0 x.f3.f1 x.f4 x.f5
      have hM : Ev (fun k => (laws_toStringS.f k x.f5).bind fun t => some (x.f0, x.f1, x.f2, x.f3.f0, x.f3.f1, x.f4, t)) (x.f0, x.f1, x.f2, x.f3.f0, x.f3.f1, x.f4, x.f5) := Ev.bind hT (Ev.now _)
      refine Ev.bind hM (Ev.bind h1 (Ev.bind hM (Ev.bind h2 ?_)))
      refine Ev.neg (by simp) (Ev.bind hM ?_)
      unfold laws_eqMsg.f
      simp only [if_true, eqHead_eq, Option.bind_some]
      refine Ev.bind (Ev.bind (eqStringS_ev x.f5 (by omega)) (Ev.pos rfl (Ev.now _))) ?_
      exact Ev.pos rfl (Ev.now _)
end Go.Proofs.Ytkdlcenchnimlaa.Q
namespace Go.Proofs.Ytkdlcenchnimlaa
theorem fnExactMsgOk_holds : Rows.FnExactMsgOkSaid := Q.FnExactMsgOk_row Q.pure_FnExactMsgOk
end Go.Proofs.Ytkdlcenchnimlaa
