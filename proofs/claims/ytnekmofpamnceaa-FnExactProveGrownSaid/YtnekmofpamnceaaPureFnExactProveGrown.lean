/- The program's ProveGrown and the reference's return the same for every log and number; no condition. -/
import Derived.Test.YtnekmofpamnceaaJB3
import Derived.Test.YtnekmofpamnceaaHLogM
import Derived.Test.YtnekmofpamnceaaLogOk
import Derived.Test.YtnekmofpamnceaaGrow
import Derived.Test.YtnekmofpamnceaaQf60
import Derived.Test.YtnekmofpamnceaaQf59
import Derived.Test.YtnekmofpamnceaaLawFnExactProveGrown
namespace Go.Proofs.Ytnekmofpamnceaa.Q
open Go.RowKit Go.Proofs.Ytnekmofpamnceaa.B Go.Proofs.YtnekmofpamnceaaW.PrintWords
set_option linter.unusedVariables false

theorem proveGrown_both (l : List ByteArray) (n : Int) (s : ByteArray) (i : Int) (hl : l.length ≤ 1048576) (hs : ∀ x ∈ l, x.size ≤ bigB) : ∃ p b, Ev (fun k => spec_ProveGrown.f k l n s i) (p, b) ∧ Ev (fun k => impl_ProveGrown.f k l n s i) (p, b) ∧ p.length ≤ 1048577 := by
  have hS := spec_LogOk_ev l n s hs
  have hI := impl_LogOk_ev l n s hs
  unfold spec_ProveGrown.f impl_ProveGrown.f
  rw [w64 (x := (l.length : Int) - 1) (by omega) (by omega)]
  by_cases hi : 1 ≤ i ∧ i ≤ (l.length : Int) - 1
  · by_cases hk : logOk l n s = true
    · obtain ⟨j, rfl⟩ := Int.eq_ofNat_of_zero_le (show 0 ≤ i by omega)
      have q := growOf_length l.length l j true (Nat.le_refl _)
      refine ⟨growOf l j true, true, ?_, ?_, by omega⟩
      · exact Ev.bind hS (Ev.pos hk (Ev.bind (Ev.const (spec_in_eq _ _ _)) (Ev.pos (decide_eq_true hi) (Ev.bind (spec_grow_ev l.length l j true (Nat.le_refl _) (by omega) (by omega) (by omega) hs) (Ev.now _)))))
      · exact Ev.bind (Ev.const (impl_in_eq _ _ _)) (Ev.pos (decide_eq_true hi) (Ev.bind hI (Ev.pos hk (Ev.bind (impl_grow_ev l.length l j true (Nat.le_refl _) (by omega) (by omega) (by omega) hs) (Ev.now _)))))
    · refine ⟨[], false, ?_, ?_, by simp⟩
      · exact Ev.bind hS (Ev.neg hk (Ev.now _))
      · exact Ev.bind (Ev.const (impl_in_eq _ _ _)) (Ev.pos (decide_eq_true hi) (Ev.bind hI (Ev.neg hk (Ev.now _))))
  · have hd : ¬ decide (1 ≤ i ∧ i ≤ (l.length : Int) - 1) = true := by
      rw [decide_eq_false hi]
      simp
    refine ⟨[], false, ?_, ?_, by simp⟩
    · by_cases hk : logOk l n s = true
      · exact Ev.bind hS (Ev.pos hk (Ev.bind (Ev.const (spec_in_eq _ _ _)) (Ev.neg hd (Ev.now _))))
      · exact Ev.bind hS (Ev.neg hk (Ev.now _))
    · exact Ev.bind (Ev.const (impl_in_eq _ _ _)) (Ev.neg hd (Ev.now _))

theorem pure_FnExactProveGrown : laws_FnExactProveGrown.Pure := by
  intro x i g gi
  refine Ev.rounds (g := fun k => laws_FnExactProveGrown.f k x.f0 x.f1.f0 x.f1.f1 i) ?_
  obtain ⟨⟨g1, g2⟩, g3, g4⟩ := g
  generalize x.f0 = l at *
  generalize x.f1.f0 = n at *
  generalize x.f1.f1 = s at *
  unfold laws_FnExactProveGrown.f
  obtain ⟨r, hr, hc⟩ := szLog_ev l n s 1048576 (by omega) (by omega) g1 g2 g4
  refine Ev.bind hr ?_
  rcases hc with hc | ⟨hc, hc1⟩
  · exact Ev.pos hc (Ev.now _)
  · have ht := total_nonneg l
    have hT := toLog_ev l n s (by omega)
    obtain ⟨q, b, h1, h2, hq⟩ := proveGrown_both l n s i (by omega) (total_small (l := l) (by omega))
    have hE := eqStringS_ev q (by omega)
    obtain ⟨M, hM, hM1, hM2⟩ := markLog_ev l n s 1 (by omega) (by omega)
    obtain ⟨m, hm, hm1, hm2⟩ := markStringS_ev q 1 (by omega) (by omega)
    have hh := heldStringS_ev m 1 (by omega) (by omega) hm2
    rw [hm1] at hh
    have hbb : (b != b) = false := by simp
    refine Ev.neg (by omega) (Ev.bind hT (Ev.bind h1 (Ev.bind hT (Ev.bind h2 (Ev.bind hE (Ev.pos rfl ?_))))))
    simp only [hbb]
    refine Ev.step (fun k => by simp only [laws_FnExactProveGrown.j0]; rfl) ?_
    refine Ev.neg (by simp) (Ev.bind hT (Ev.bind (eqLog_ev l n s (by omega)) (Ev.pos rfl (Ev.bind hM (Ev.neg (by omega) (Ev.bind hE (Ev.pos rfl ?_)))))))
    simp only [hbb]
    refine Ev.step (fun k => by simp only [laws_FnExactProveGrown.j1]; rfl) ?_
    refine Ev.neg (by simp) (Ev.bind hm (Ev.bind hh (Ev.neg (by omega) (Ev.pos rfl (Ev.bind hT (Ev.bind h2 (Ev.bind hE (Ev.pos rfl ?_))))))))
    simp only [hbb]
    refine Ev.step (fun k => by simp only [laws_FnExactProveGrown.j2]; rfl) ?_
    exact Ev.neg (by simp) (Ev.bind hh (Ev.neg (by omega) (Ev.pos rfl (Ev.now _))))
end Go.Proofs.Ytnekmofpamnceaa.Q
namespace Go.Proofs.Ytnekmofpamnceaa
theorem fnExactProveGrown_holds : Rows.FnExactProveGrownSaid := Q.FnExactProveGrown_row Q.pure_FnExactProveGrown
end Go.Proofs.Ytnekmofpamnceaa
