/- The program's Fork and the reference's Fork return the same for every list of heads; no condition. -/
import Derived.Test.YtkdlcenchnimlaaHFork
import Derived.Test.YtkdlcenchnimlaaLawFnExactFork
namespace Go.Proofs.Ytkdlcenchnimlaa.Q
open Go.RowKit Go.Proofs.Ytkdlcenchnimlaa.B Go.Proofs.YtkdlcenchnimlaaW.PrintWords

theorem pure_FnExactFork : laws_FnExactFork.Pure := by
  intro l gl
  refine Ev.rounds (g := fun k => laws_FnExactFork.f k l) ?_
  obtain ⟨r, hr, hc⟩ := szHeadS_ev l 1048576 (by omega) (by omega) gl.1 (fun y hy => (gl.2 y hy).2)
  unfold laws_FnExactFork.f
  refine Ev.bind hr ?_
  rcases hc with hc | ⟨hc, hc1, _⟩
  · exact Ev.pos hc (Ev.now _)
  · refine Ev.neg (by omega) ?_
    have hT := toHeadS_ev l (by omega)
    obtain ⟨q, h1, h2, _⟩ := fork_ev (l.map cvHead) (by simp; omega)
    refine Ev.bind hT (Ev.bind h1 (Ev.bind hT (Ev.bind h2 ?_)))
    simp only [eqHead_eq, Option.bind_some, if_true]
    have hne : (q.2.2.2.2 != q.2.2.2.2) = false := by simp
    rw [hne]
    refine Ev.step (fun k => by simp only [laws_FnExactFork.j0]; rfl) ?_
    refine Ev.neg (by simp) (Ev.bind hT (Ev.bind (eqHeadS_ev _ (by simp; omega)) ?_))
    exact Ev.pos rfl (Ev.now _)
end Go.Proofs.Ytkdlcenchnimlaa.Q
namespace Go.Proofs.Ytkdlcenchnimlaa
theorem fnExactFork_holds : Rows.FnExactForkSaid := Q.FnExactFork_row Q.pure_FnExactFork
end Go.Proofs.Ytkdlcenchnimlaa
