/- The program's Clash and the reference's return the same for every two lists of texts; no condition. -/
import Derived.Test.YtnekmofpamnceaaJB3
import Derived.Test.YtnekmofpamnceaaClash
import Derived.Test.YtnekmofpamnceaaLawFnExactClash
namespace Go.Proofs.Ytnekmofpamnceaa.Q
open Go.RowKit Go.Proofs.Ytnekmofpamnceaa.B Go.Proofs.YtnekmofpamnceaaW.PrintWords

theorem pure_FnExactClash : laws_FnExactClash.Pure := by
  intro l m gl gm
  refine Ev.rounds (g := fun k => laws_FnExactClash.f k l m) ?_
  unfold laws_FnExactClash.f
  obtain ⟨r, hr, hc⟩ := szStringS_ev l 1048576 (by omega) (by omega) gl.1 gl.2
  refine Ev.bind hr ?_
  rcases hc with hc | ⟨hc, hc1⟩
  · exact Ev.pos hc (Ev.now _)
  · have ht := total_nonneg l
    obtain ⟨r2, hr2, hc2⟩ := szStringS_ev m r hc (by omega) gm.1 gm.2
    refine Ev.neg (by omega) (Ev.bind hr2 ?_)
    rcases hc2 with hc2 | ⟨hc2, hc3⟩
    · exact Ev.pos hc2 (Ev.now _)
    · have htm := total_nonneg m
      have hL := toStringS_ev l (by omega)
      have hM := toStringS_ev m (by omega)
      obtain ⟨a, b, c, e1, e2, _⟩ := Clash_ev l m (total_small (l := l) (by omega)) (total_small (l := m) (by omega)) (by omega)
      refine Ev.neg (by omega) (Ev.bind hL (Ev.bind hM (Ev.bind e1 (Ev.bind hL (Ev.bind hM (Ev.bind e2 (Ev.pos rfl (Ev.pos rfl ?_))))))))
      have hbb : (c != c) = false := by simp
      simp only [hbb]
      refine Ev.step (fun k => by simp only [laws_FnExactClash.j0]; rfl) ?_
      exact Ev.neg (by simp) (Ev.bind hL (Ev.bind (eqStringS_ev l (by omega)) (Ev.pos rfl (Ev.bind hM (Ev.bind (eqStringS_ev m (by omega)) (Ev.pos rfl (Ev.now _)))))))
end Go.Proofs.Ytnekmofpamnceaa.Q
namespace Go.Proofs.Ytnekmofpamnceaa
theorem fnExactClash_holds : Rows.FnExactClashSaid := Q.FnExactClash_row Q.pure_FnExactClash
end Go.Proofs.Ytnekmofpamnceaa
