/- The program's ProveIn and the reference's return the same for every log and number; no condition. -/
import Derived.Test.YtnekmofpamnceaaJB3
import Derived.Test.YtnekmofpamnceaaHLogM
import Derived.Test.YtnekmofpamnceaaLogOk
import Derived.Test.YtnekmofpamnceaaPath
import Derived.Test.YtnekmofpamnceaaQf58
import Derived.Test.YtnekmofpamnceaaQf57
import Derived.Test.YtnekmofpamnceaaLawFnExactProveIn
namespace Go.Proofs.Ytnekmofpamnceaa.Q
open Go.RowKit Go.Proofs.Ytnekmofpamnceaa.B Go.Proofs.YtnekmofpamnceaaW.PrintWords
set_option linter.unusedVariables false

theorem proveIn_both (l : List ByteArray) (n : Int) (s : ByteArray) (i : Int) (hl : l.length ≤ 1048576) (hs : ∀ x ∈ l, x.size ≤ bigB) : ∃ p b, Ev (fun k => spec_ProveIn.f k l n s i) (p, b) ∧ Ev (fun k => impl_ProveIn.f k l n s i) (p, b) ∧ p.length ≤ 1048577 := by
  have hS := spec_LogOk_ev l n s hs
  have hI := impl_LogOk_ev l n s hs
  unfold spec_ProveIn.f impl_ProveIn.f
  rw [w64 (x := (l.length : Int) - 1) (by omega) (by omega)]
  by_cases hi : 0 ≤ i ∧ i ≤ (l.length : Int) - 1
  · by_cases hk : logOk l n s = true
    · obtain ⟨j, rfl⟩ := Int.eq_ofNat_of_zero_le (show 0 ≤ i by omega)
      have q := pathOf_length l.length l j (Nat.le_refl _)
      refine ⟨pathOf l j, true, ?_, ?_, by omega⟩
      · exact Ev.bind hS (Ev.pos hk (Ev.bind (Ev.const (spec_in_eq _ _ _)) (Ev.pos (decide_eq_true hi) (Ev.bind (spec_path_ev l.length l j (Nat.le_refl _) (by omega) (by omega) hs) (Ev.now _)))))
      · exact Ev.bind (Ev.const (impl_in_eq _ _ _)) (Ev.pos (decide_eq_true hi) (Ev.bind hI (Ev.pos hk (Ev.bind (impl_path_ev l.length l j (Nat.le_refl _) (by omega) (by omega) hs) (Ev.now _)))))
    · refine ⟨[], false, ?_, ?_, by simp⟩
      · exact Ev.bind hS (Ev.neg hk (Ev.now _))
      · exact Ev.bind (Ev.const (impl_in_eq _ _ _)) (Ev.pos (decide_eq_true hi) (Ev.bind hI (Ev.neg hk (Ev.now _))))
  · have hd : ¬ decide (0 ≤ i ∧ i ≤ (l.length : Int) - 1) = true := by
      rw [decide_eq_false hi]
      simp
    refine ⟨[], false, ?_, ?_, by simp⟩
    · by_cases hk : logOk l n s = true
      · exact Ev.bind hS (Ev.pos hk (Ev.bind (Ev.const (spec_in_eq _ _ _)) (Ev.neg hd (Ev.now _))))
      · exact Ev.bind hS (Ev.neg hk (Ev.now _))
    · exact Ev.bind (Ev.const (impl_in_eq _ _ _)) (Ev.neg hd (Ev.now _))

theorem pure_FnExactProveIn : laws_FnExactProveIn.Pure := by
  intro x i g gi
  refine Ev.rounds (g := fun k => laws_FnExactProveIn.f k x.f0 x.f1.f0 x.f1.f1 i) ?_
  obtain ⟨⟨g1, g2⟩, g3, g4⟩ := g
  generalize x.f0 = l at *
  generalize x.f1.f0 = n at *
  generalize x.f1.f1 = s at *
  unfold laws_FnExactProveIn.f
  obtain ⟨r, hr, hc⟩ := szLog_ev l n s 1048576 (by omega) (by omega) g1 g2 g4
  refine Ev.bind hr ?_
  rcases hc with hc | ⟨hc, hc1⟩
  · exact Ev.pos hc (Ev.now _)
  · have ht := total_nonneg l
    have hT := toLog_ev l n s (by omega)
    obtain ⟨q, b, h1, h2, hq⟩ := proveIn_both l n s i (by omega) (total_small (l := l) (by omega))
    have hE := eqStringS_ev q (by omega)
    obtain ⟨M, hM, hM1, hM2⟩ := markLog_ev l n s 1 (by omega) (by omega)
    obtain ⟨m, hm, hm1, hm2⟩ := markStringS_ev q 1 (by omega) (by omega)
    have hh := heldStringS_ev m 1 (by omega) (by omega) hm2
    rw [hm1] at hh
    have hbb : (b != b) = false := by simp
    refine Ev.neg (by omega) (Ev.bind hT (Ev.bind h1 (Ev.bind hT (Ev.bind h2 (Ev.bind hE (Ev.pos rfl ?_))))))
    simp only [hbb]
    refine Ev.step (fun k => by simp only [laws_FnExactProveIn.j0]; rfl) ?_
    refine Ev.neg (by simp) (Ev.bind hT (Ev.bind (eqLog_ev l n s (by omega)) (Ev.pos rfl (Ev.bind hM (Ev.neg (by omega) (Ev.bind hE (Ev.pos rfl ?_)))))))
    simp only [hbb]
    refine Ev.step (fun k => by simp only [laws_FnExactProveIn.j1]; rfl) ?_
    refine Ev.neg (by simp) (Ev.bind hm (Ev.bind hh (Ev.neg (by omega) (Ev.pos rfl (Ev.bind hT (Ev.bind h2 (Ev.bind hE (Ev.pos rfl ?_))))))))
    simp only [hbb]
    refine Ev.step (fun k => by simp only [laws_FnExactProveIn.j2]; rfl) ?_
    exact Ev.neg (by simp) (Ev.bind hh (Ev.neg (by omega) (Ev.pos rfl (Ev.now _))))
end Go.Proofs.Ytnekmofpamnceaa.Q
namespace Go.Proofs.Ytnekmofpamnceaa
theorem fnExactProveIn_holds : Rows.FnExactProveInSaid := Q.FnExactProveIn_row Q.pure_FnExactProveIn
end Go.Proofs.Ytnekmofpamnceaa
