/- The program's EdgeOf and the reference's return the same for every list of texts; no condition. -/
import Derived.Test.YtnekmofpamnceaaEdgePO
import Derived.Test.YtnekmofpamnceaaJB3
import Derived.Test.YtnekmofpamnceaaHEdge
import Derived.Test.YtnekmofpamnceaaEdgeS
import Derived.Test.YtnekmofpamnceaaQf25
import Derived.Test.YtnekmofpamnceaaQf26
import Derived.Test.YtnekmofpamnceaaLawFnExactEdgeOf
namespace Go.Proofs.Ytnekmofpamnceaa.Q
open Go.RowKit Go.Proofs.Ytnekmofpamnceaa.B Go.Proofs.YtnekmofpamnceaaW.PrintWords

theorem pure_FnExactEdgeOf : laws_FnExactEdgeOf.Pure := by
  intro l gl
  refine Ev.rounds (g := fun k => laws_FnExactEdgeOf.f k l) ?_
  unfold laws_FnExactEdgeOf.f
  obtain ⟨r, hr, hc⟩ := szStringS_ev l 1048576 (by omega) (by omega) gl.1 gl.2
  refine Ev.bind hr ?_
  rcases hc with hc | ⟨hc, hc1⟩
  · exact Ev.pos hc (Ev.now _)
  · have ht := total_nonneg l
    have hT := toStringS_ev l (by omega)
    have hs : ∀ x ∈ l, x.size ≤ 1048700 := fun x hx => by have := total_mem hx; omega
    have h1 := spec_EdgeOf_ev l hs (by omega)
    have h2 := impl_EdgeOf_eq l hs
    have hq := edgeOf_small l
    generalize edgeOf l = q at h1 h2 hq
    have hE := eqEdge_ev q.1 q.2 (by omega)
    obtain ⟨M, hM, hM1, hM2⟩ := markStringS_ev l 1 (by omega) (by omega)
    obtain ⟨m, hm, hm1, hm2⟩ := markStringS_ev q.2 1 (by omega) (by omega)
    have hh := heldStringS_ev m 1 (by omega) (by omega) hm2
    rw [hm1] at hh
    have hmE : Ev (fun k => laws_markEdge.f k q.1 q.2 1) (1 + (q.2.length : Int), m) := by
      unfold laws_markEdge.f
      exact Ev.bind hm (Ev.now _)
    have hhE : Ev (fun k => laws_heldEdge.f k q.1 m 1) (1 + (q.2.length : Int)) := by
      unfold laws_heldEdge.f
      exact Ev.bind hh (Ev.neg (by omega) (Ev.now _))
    refine Ev.neg (by omega) (Ev.bind hT (Ev.bind h1 (Ev.bind hT (Ev.bind (Ev.const h2) (Ev.bind hE (Ev.pos rfl (Ev.bind hT (Ev.bind (eqStringS_ev l (by omega)) (Ev.pos rfl (Ev.bind hM (Ev.neg (by omega) (Ev.bind hE ?_))))))))))))
    refine Ev.step (fun k => by simp only [laws_FnExactEdgeOf.j0]; rfl) ?_
    exact Ev.neg (by simp) (Ev.bind hmE (Ev.bind hhE (Ev.neg (by omega) (Ev.pos rfl (Ev.bind hT (Ev.bind (Ev.const h2) (Ev.bind hE (Ev.pos rfl (Ev.bind hhE (Ev.neg (by omega) (Ev.pos rfl (Ev.now _))))))))))))
end Go.Proofs.Ytnekmofpamnceaa.Q
namespace Go.Proofs.Ytnekmofpamnceaa
theorem fnExactEdgeOf_holds : Rows.FnExactEdgeOfSaid := Q.FnExactEdgeOf_row Q.pure_FnExactEdgeOf
end Go.Proofs.Ytnekmofpamnceaa
