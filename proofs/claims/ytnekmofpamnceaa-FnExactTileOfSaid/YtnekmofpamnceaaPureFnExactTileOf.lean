/- The program's TileOf and the reference's return the same for every list, level and place; no condition. -/
import Derived.Test.YtnekmofpamnceaaJB3
import Derived.Test.YtnekmofpamnceaaTileS
import Derived.Test.YtnekmofpamnceaaLawFnExactTileOf
namespace Go.Proofs.Ytnekmofpamnceaa.Q
open Go.RowKit Go.Proofs.Ytnekmofpamnceaa.B Go.Proofs.YtnekmofpamnceaaW.PrintWords

theorem pure_FnExactTileOf : laws_FnExactTileOf.Pure := by
  intro l v i gl gv gi
  refine Ev.rounds (g := fun k => laws_FnExactTileOf.f k l v i) ?_
  unfold laws_FnExactTileOf.f
  obtain ⟨r, hr, hc⟩ := szStringS_ev l 1048576 (by omega) (by omega) gl.1 gl.2
  refine Ev.bind hr ?_
  rcases hc with hc | ⟨hc, hc1⟩
  · exact Ev.pos hc (Ev.now _)
  · have ht := total_nonneg l
    have hT := toStringS_ev l (by omega)
    obtain ⟨q, h1, h2, hq⟩ := tile_all l v i (total_small (l := l) (by omega))
    have hE := eqStringS_ev q (by omega)
    obtain ⟨M, hM, hM1, hM2⟩ := markStringS_ev l 1 (by omega) (by omega)
    obtain ⟨m, hm, hm1, hm2⟩ := markStringS_ev q 1 (by omega) (by omega)
    have hh := heldStringS_ev m 1 (by omega) (by omega) hm2
    rw [hm1] at hh
    refine Ev.neg (by omega) (Ev.bind hT (Ev.bind h1 (Ev.bind hT (Ev.bind h2 (Ev.bind hE (Ev.pos rfl (Ev.bind hT (Ev.bind (eqStringS_ev l (by omega)) (Ev.pos rfl (Ev.bind hM (Ev.neg (by omega) (Ev.bind hE ?_))))))))))))
    refine Ev.step (fun k => by simp only [laws_FnExactTileOf.j0]; rfl) ?_
    exact Ev.neg (by simp) (Ev.bind hm (Ev.bind hh (Ev.neg (by omega) (Ev.pos rfl (Ev.bind hT (Ev.bind h2 (Ev.bind hE (Ev.pos rfl (Ev.bind hh (Ev.neg (by omega) (Ev.pos rfl (Ev.now _))))))))))))
end Go.Proofs.Ytnekmofpamnceaa.Q
namespace Go.Proofs.Ytnekmofpamnceaa
theorem fnExactTileOf_holds : Rows.FnExactTileOfSaid := Q.FnExactTileOf_row Q.pure_FnExactTileOf
end Go.Proofs.Ytnekmofpamnceaa
