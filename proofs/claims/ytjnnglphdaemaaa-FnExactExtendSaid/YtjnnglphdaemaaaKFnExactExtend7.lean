-- Joined and shortened by a program of this session (wip/tools/shakecopy.py): the words of the print, texts of pp.sh and of mine.
import Derived.Test.YtjnnglphdaemaaaKFnExactExtend6
section
/- The program's Extend and the reference's return the same for every log, list of heads, head and list of texts; no condition. -/
namespace Go.Proofs.Ytjnnglphdaemaaa.Q
open Go.RowKit Go.Proofs.Ytjnnglphdaemaaa.B Go.Proofs.YtjnnglphdaemaaaW.PrintWords
set_option linter.unusedVariables false

theorem pure_FnExactExtend : laws_FnExactExtend.Pure := by
  intro y T h x gy gT gh gx
  refine Ev.rounds (g := fun k => laws_FnExactExtend.f k y.f0 y.f1.f0 y.f1.f1 T h.f0 h.f1 x) ?_
  obtain ⟨⟨g1, g2⟩, g3, g4⟩ := gy
  obtain ⟨g5, g6⟩ := gh
  generalize y.f0 = l at *
  generalize y.f1.f0 = n at *
  generalize y.f1.f1 = s at *
  generalize h.f0 = a at *
  generalize h.f1 = z at *
  unfold laws_FnExactExtend.f
  obtain ⟨r, hr, hc⟩ := szLog_ev l n s 1048576 (by omega) (by omega) g1 g2 g4
  refine Ev.bind hr ?_
  rcases hc with hc | ⟨hc, hc1⟩
  · exact Ev.pos hc (Ev.now _)
  · have ht := total_nonneg l
    obtain ⟨r2, hr2, hc2⟩ := szHeadS_ev T r hc (by omega) gT.1 (fun y hy => (gT.2 y hy).2)
    refine Ev.neg (by omega) (Ev.bind hr2 ?_)
    rcases hc2 with hc2 | ⟨hc2, hc3, _⟩
    · exact Ev.pos hc2 (Ev.now _)
    · obtain ⟨r3, hr3, hc4⟩ := szHead_eq a z r2 hc2 (by omega) g6
      refine Ev.neg (by omega) (Ev.bind (Ev.const hr3) ?_)
      rcases hc4 with hc4 | ⟨hc4, hc5⟩
      · exact Ev.pos hc4 (Ev.now _)
      · obtain ⟨r4, hr4, hc6⟩ := szStringS_ev x r3 hc4 (by omega) gx.1 gx.2
        refine Ev.neg (by omega) (Ev.bind hr4 ?_)
        rcases hc6 with hc6 | ⟨hc6, hc7⟩
        · exact Ev.pos hc6 (Ev.now _)
        · have ht2 := total_nonneg x
          have hL := toLog_ev l n s (by omega)
          have hH := toHeadS_ev T (by omega)
          have hX := toStringS_ev x (by omega)
          have hEL := eqLog_ev l n s (by omega)
          have hEH := eqHeadS_ev (T.map cvHead) (by simp; omega)
          have hEX := eqStringS_ev x (by omega)
          have hs : ∀ y ∈ l ++ x, y.size ≤ bigB := fun y hy => by
            rcases List.mem_append.1 hy with hy | hy
            · exact total_small (l := l) (by omega) y hy
            · exact total_small (l := x) (by omega) y hy
          have q1 := spec_Extend_ev (T.map cvHead) l n s a z x (by simp; omega) hs (by omega)
          have q2 := impl_Extend_ev (T.map cvHead) l n s a z x (by simp; omega) hs (by omega)
          have hR := extendOf_len (T.map cvHead) l n s a z x
          generalize extendOf (T.map cvHead) l n s a z x = R at *
          obtain ⟨L, N, Z, c⟩ := R
          simp only at hR
          have hER := eqLog_ev L N Z (by omega)
          obtain ⟨M1, hM1, _, _⟩ := markLog_ev l n s 1 (by omega) (by omega)
          obtain ⟨M2, hM2⟩ := markHeadS_ev (T.map cvHead) (1 + (l.length : Int)) (by omega) (by simp; omega)
          obtain ⟨M3, hM3, _, _⟩ := markStringS_ev x (1 + (l.length : Int) + 2 * ((T.map cvHead).length : Int)) (by omega) (by simp; omega)
          obtain ⟨M, hM, hl, hm⟩ := markLog_ev L N Z 1 (by omega) (by omega)
          have hh := heldLog_ev M N Z 1 (by omega) (by omega) hm
          rw [hl] at hh
          refine Ev.neg (by omega) (Ev.bind hL (Ev.bind hH (Ev.bind (Ev.const (toHead_eq a z)) (Ev.bind hX (Ev.bind q1 (Ev.bind hL (Ev.bind hH (Ev.bind hX (Ev.bind (Ev.const (toHead_eq a z)) (Ev.bind q2 (Ev.bind hER (Ev.pos rfl ?_))))))))))))
          refine Ev.step (fun k => by simp only [laws_FnExactExtend.j0]; rfl) ?_
          refine Ev.neg (by simp) (Ev.bind hL (Ev.bind hEL (Ev.pos rfl (Ev.bind hH (Ev.bind hEH (Ev.pos rfl (Ev.bind hX (Ev.bind hEX (Ev.pos rfl (Ev.bind hM1 (Ev.bind hM2 (Ev.bind hM3 (Ev.neg (by simp only; omega) (Ev.bind hER (Ev.pos rfl ?_)))))))))))))))
          refine Ev.step (fun k => by simp only [laws_FnExactExtend.j1]; rfl) ?_
          refine Ev.neg (by simp) (Ev.bind hM (Ev.bind hh (Ev.neg (by omega) (Ev.pos rfl (Ev.bind hL (Ev.bind hH (Ev.bind (Ev.const (toHead_eq a z)) (Ev.bind hX (Ev.bind q2 (Ev.bind hER (Ev.pos rfl ?_)))))))))))
          refine Ev.step (fun k => by simp only [laws_FnExactExtend.j2]; rfl) ?_
          exact Ev.neg (by simp) (Ev.bind hh (Ev.neg (by omega) (Ev.pos rfl (Ev.now _))))
end Go.Proofs.Ytjnnglphdaemaaa.Q
namespace Go.Proofs.Ytjnnglphdaemaaa
theorem fnExactExtend_holds : Rows.FnExactExtendSaid := Q.FnExactExtend_row Q.pure_FnExactExtend
end Go.Proofs.Ytjnnglphdaemaaa
end
