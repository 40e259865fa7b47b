/- Commits put into bytes: the program's and the reference's are one. Plain. -/
import Derived.Test.YtoipfpjcpngpfaaPut
import Derived.Test.YtoipfpjcpngpfaaJB3
import Derived.Test.YtoipfpjcpngpfaaQf102
import Derived.Test.YtoipfpjcpngpfaaQf105
import Derived.Test.YtoipfpjcpngpfaaQf30
import Derived.Test.YtoipfpjcpngpfaaQf33
import Derived.Test.YtoipfpjcpngpfaaQf52
import Derived.Test.YtoipfpjcpngpfaaQf103
namespace Go.Proofs.Ytoipfpjcpngpfaa.Q
open Go.RowKit Go.Proofs.Ytoipfpjcpngpfaa.B Go.Proofs.YtoipfpjcpngpfaaW.PrintWords Go.Proofs.YtoipfpjcpngpfaaW.PrintMore
set_option linter.unusedVariables false
set_option linter.unusedSimpArgs false

theorem l12Put_both (n : Int) (s : ByteArray) (t : List ByteArray) (hs : s.size ≤ 1048576) (hl : t.length ≤ 1048576) (ht : total t ≤ 1048576) :
    ∃ r, Ev (fun q => spec_l12Put.f q n s t) r ∧ Ev (fun q => impl_putCommit.f q n s t) r ∧ r.length ≤ 100000000 ∧ InB r := by
  have ht0 := total_nonneg t
  obtain ⟨a, a1, a2, a3, a4⟩ := putNum_both [] n (by simp) inB_nil
  simp only [List.length_nil] at a3
  obtain ⟨b, b1, b2, b3, b4⟩ := putText_both a s (by omega) a4
  obtain ⟨c, c1, c2, c3, c4⟩ := putTexts_both b t (by omega) b4
  obtain ⟨d, d1, d2, d3, d4⟩ := putNum_both [] (c.length : Int) (by simp) inB_nil
  simp only [List.length_nil] at d3
  have h32 : (sha c).size = 32 := sha_size c
  have h4 : ((sha c).extract 0 4).size = 4 := by
    rw [ByteArray.size_extract, h32]
    rfl
  have hcl : c.length ≤ 20000000 := by omega
  refine ⟨(d ++ c) ++ bytesOf ((sha c).extract 0 4), ?_, ?_, ?_, inB_app (inB_app d4 c4) (inB_text _)⟩
  · unfold spec_l12Put.f
    refine Ev.bind a1 (Ev.bind b1 (Ev.bind c1 (Ev.bind d1 (Ev.pos (by omega) (Ev.bind (Ev.now _) (Ev.bind (spec_Digest_ev c (by omega) c4) ?_))))))
    exact Ev.pos (by omega) (Ev.pos (by omega) (Ev.pos (by rw [List.length_append, h4]; omega) (Ev.now _)))
  · unfold impl_putCommit.f
    refine Ev.bind a2 (Ev.bind b2 (Ev.bind c2 (Ev.bind d2 (Ev.pos (by omega) (Ev.bind (Ev.now _) (Ev.bind (Ev.const (impl_Digest_is c (by omega))) ?_))))))
    exact Ev.pos (by omega) (Ev.pos (by omega) (Ev.pos (by rw [List.length_append, h4]; omega) (Ev.now _)))
  · rw [List.length_append, List.length_append, bytesOf_length, h4]
    omega
def headOk (n : Int) (s : ByteArray) : Bool := if 0 ≤ n ∧ n ≤ 200 then ((s.size : Int) == 32) else false
theorem spec_HeadOk_eq (n : Int) (s : ByteArray) : spec_HeadOk.f n s = some (headOk n s) := by
  unfold spec_HeadOk.f headOk
  rw [spec_in_eq]
  simp only [Option.bind_some]
  by_cases h : 0 ≤ n ∧ n ≤ 200
  · rw [decide_eq_true h, if_pos h]
    rfl
  · rw [decide_eq_false h, if_neg h]
    rfl
theorem impl_HeadOk_eq (n : Int) (s : ByteArray) : impl_HeadOk.f n s = some (headOk n s) := by
  unfold impl_HeadOk.f headOk
  rw [impl_in_eq]
  simp only [Option.bind_some]
  by_cases h : 0 ≤ n ∧ n ≤ 200
  · rw [decide_eq_true h, if_pos h]
    rfl
  · rw [decide_eq_false h, if_neg h]
    rfl
theorem PutCommit_both (n : Int) (s : ByteArray) (t : List ByteArray) (hs : s.size ≤ 1048576) (hl : t.length ≤ 1048576) (ht : total t ≤ 1048576) :
    ∃ r, Ev (fun q => spec_PutCommit.f q n s t) r ∧ Ev (fun q => impl_PutCommit.f q n s t) r ∧ r.length ≤ 100000000 := by
  unfold spec_PutCommit.f impl_PutCommit.f
  by_cases h : headOk n s = true
  · by_cases h2 : 1 ≤ (t.length : Int) ∧ (t.length : Int) ≤ 200
    · obtain ⟨r, r1, r2, r3, _⟩ := l12Put_both n s t hs hl ht
      exact ⟨r, Ev.bind (Ev.const (spec_HeadOk_eq n s)) (Ev.pos h (Ev.bind (Ev.const (spec_in_eq _ _ _)) (Ev.pos (decide_eq_true h2) (Ev.bind r1 (Ev.now _))))), Ev.bind (Ev.const (impl_HeadOk_eq n s)) (Ev.pos h (Ev.bind (Ev.const (impl_in_eq _ _ _)) (Ev.pos (decide_eq_true h2) (Ev.bind r2 (Ev.now _))))), r3⟩
    · have hd : ¬ decide (1 ≤ (t.length : Int) ∧ (t.length : Int) ≤ 200) = true := by
        rw [decide_eq_false h2]
        simp
      exact ⟨[], Ev.bind (Ev.const (spec_HeadOk_eq n s)) (Ev.pos h (Ev.bind (Ev.const (spec_in_eq _ _ _)) (Ev.neg hd (Ev.now _)))), Ev.bind (Ev.const (impl_HeadOk_eq n s)) (Ev.pos h (Ev.bind (Ev.const (impl_in_eq _ _ _)) (Ev.neg hd (Ev.now _)))), by simp⟩
  · exact ⟨[], Ev.bind (Ev.const (spec_HeadOk_eq n s)) (Ev.neg h (Ev.now _)), Ev.bind (Ev.const (impl_HeadOk_eq n s)) (Ev.neg h (Ev.now _)), by simp⟩
end Go.Proofs.Ytoipfpjcpngpfaa.Q
