/- The program's PutCommit and the reference's return the same for every head and texts; no condition. -/
import Derived.Test.YtoipfpjcpngpfaaHByteE
import Derived.Test.YtoipfpjcpngpfaaJB3
import Derived.Test.YtoipfpjcpngpfaaPutC
import Derived.Test.YtoipfpjcpngpfaaLawFnExactPutCommit
namespace Go.Proofs.Ytoipfpjcpngpfaa.Q
open Go.RowKit Go.Proofs.Ytoipfpjcpngpfaa.B Go.Proofs.YtoipfpjcpngpfaaW.PrintWords

theorem pure_FnExactPutCommit : laws_FnExactPutCommit.Pure := by
  intro x t g gt
  refine Ev.rounds (g := fun k => laws_FnExactPutCommit.f k x.f0 x.f1 t) ?_
  obtain ⟨g3, g4⟩ := g
  generalize x.f0 = n at *
  generalize x.f1 = s at *
  unfold laws_FnExactPutCommit.f
  obtain ⟨r, hr, hc⟩ := szHead_eq n s 1048576 (by omega) (by omega) g4
  refine Ev.bind (Ev.const hr) ?_
  rcases hc with hc | ⟨hc, hc1⟩
  · exact Ev.pos hc (Ev.now _)
  · obtain ⟨r2, hr2, hc2⟩ := szStringS_ev t r hc (by omega) gt.1 gt.2
    refine Ev.neg (by omega) (Ev.bind hr2 ?_)
    rcases hc2 with hc2 | ⟨hc2, hc3⟩
    · exact Ev.pos hc2 (Ev.now _)
    · have htt := total_nonneg t
      have hS := toStringS_ev t (by omega)
      obtain ⟨q, h1, h2, hq⟩ := PutCommit_both n s t (by omega) (by omega) (by omega)
      have hE := eqByteS_ev q (by omega)
      obtain ⟨M, hM, hM1, hM2⟩ := markStringS_ev t 1 (by omega) (by omega)
      have hm := markByteS_ev q 1 (by omega) (by omega)
      have hh := heldByteS_ev q.length 1 (by omega) (by omega)
      refine Ev.neg (by omega) (Ev.bind (Ev.const (toHead_eq n s)) (Ev.bind hS (Ev.bind h1 (Ev.bind hS (Ev.bind (Ev.const (toHead_eq n s)) (Ev.bind h2 (Ev.bind hE (Ev.pos rfl (Ev.bind hS (Ev.bind (eqStringS_ev t (by omega)) (Ev.pos rfl (Ev.bind hM (Ev.neg (by omega) (Ev.bind hE ?_))))))))))))))
      refine Ev.step (fun k => by simp only [laws_FnExactPutCommit.j0]; rfl) ?_
      exact Ev.neg (by simp) (Ev.bind hm (Ev.bind hh (Ev.neg (by omega) (Ev.pos rfl (Ev.bind (Ev.const (toHead_eq n s)) (Ev.bind hS (Ev.bind h2 (Ev.bind hE (Ev.pos rfl (Ev.bind hh (Ev.neg (by omega) (Ev.pos rfl (Ev.now _)))))))))))))
end Go.Proofs.Ytoipfpjcpngpfaa.Q
namespace Go.Proofs.Ytoipfpjcpngpfaa
theorem fnExactPutCommit_holds : Rows.FnExactPutCommitSaid := Q.FnExactPutCommit_row Q.pure_FnExactPutCommit
end Go.Proofs.Ytoipfpjcpngpfaa
