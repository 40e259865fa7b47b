-- Joined and shortened by a program of this session (wip/tools/shakecopy.py): the words of the print, texts of pp.sh and of mine.
import Derived.Test.YtcogimnpffnanaaKFnExactGetMsg7
section
/- The program's GetMsg and the reference's return the same for all bytes; no condition. -/
namespace Go.Proofs.Ytcogimnpffnanaa.Q
open Go.RowKit Go.Proofs.Ytcogimnpffnanaa.B Go.Proofs.YtcogimnpffnanaaW.PrintWords
set_option linter.unusedVariables false

theorem pure_FnExactGetMsg : laws_FnExactGetMsg.Pure := by
 intro b gb
 refine Ev.rounds (g := fun k => laws_FnExactGetMsg.f k b) ?_
 unfold laws_FnExactGetMsg.f
 by_cases hc : (b.length : Int) > 1048576
 ·exact Ev.pos hc (Ev.now _)
 ·have hb : InB b := int_bytes gb.2
  obtain ⟨k, f, t, d, s, n, l, ok, e1, e2, hl, _, _⟩ := getMsg_both b hb (by omega)
  have hT := toByteS_ev b (by omega)
  have hE := eqMsg_ev k f t d s n l (by omega)
  have hB := eqByteS_ev b (by omega)
  have hM := markByteS_ev b 1 (by omega) (by omega)
  obtain ⟨M, m1, m2, m3⟩ := markStringS_ev l 1 (by omega) (by omega)
  have hh := heldStringS_ev M 1 (by omega) (by omega) m3
  rw [m2] at hh
  have hH : Ev (fun q => laws_heldMsg.f q k f t d s n M 1) (1 + (l.length : Int)) := by
   unfold laws_heldMsg.f
   exact Ev.bind hh (Ev.neg (by omega) (Ev.now _))
  have hbb : (ok != ok) = false := by simp
  refine Ev.neg hc (Ev.bind hT (Ev.bind e1 (Ev.bind hT (Ev.bind e2 (Ev.bind hE (Ev.pos rfl ?_))))))
  simp only [hbb]
  refine Ev.step (fun q => by simp only [laws_FnExactGetMsg.j0]; rfl) ?_
  refine Ev.neg (by simp) (Ev.bind hT (Ev.bind hB (Ev.pos rfl (Ev.bind hM (Ev.neg (by simp only; omega) (Ev.bind hE (Ev.pos rfl ?_)))))))
  simp only [hbb]
  refine Ev.step (fun q => by simp only [laws_FnExactGetMsg.j1]; rfl) ?_
  have hMM : Ev (fun q => laws_markMsg.f q k f t d s n l 1) (1 + (l.length : Int), M) := by
   unfold laws_markMsg.f
   exact Ev.bind m1 (Ev.now _)
  refine Ev.neg (by simp) (Ev.bind hMM (Ev.bind hH (Ev.neg (by omega) (Ev.pos rfl (Ev.bind hT (Ev.bind e2 (Ev.bind hE (Ev.pos rfl ?_))))))))
  simp only [hbb]
  refine Ev.step (fun q => by simp only [laws_FnExactGetMsg.j2]; rfl) ?_
  exact Ev.neg (by simp) (Ev.bind hH (Ev.neg (by omega) (Ev.pos rfl (Ev.now _))))
end Go.Proofs.Ytcogimnpffnanaa.Q
namespace Go.Proofs.Ytcogimnpffnanaa
theorem fnExactGetMsg_holds : Rows.FnExactGetMsgSaid := Q.FnExactGetMsg_row Q.pure_FnExactGetMsg
end Go.Proofs.Ytcogimnpffnanaa
end
