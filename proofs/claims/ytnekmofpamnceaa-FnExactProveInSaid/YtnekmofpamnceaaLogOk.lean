/- Whether a log is right: the program's and the reference's answers are one. Plain. -/
import Derived.Test.YtnekmofpamnceaaJB3
import Derived.Test.YtnekmofpamnceaaQf43
import Derived.Test.YtnekmofpamnceaaQf41
namespace Go.Proofs.Ytnekmofpamnceaa.Q
open Go.RowKit Go.Proofs.Ytnekmofpamnceaa.B Go.Proofs.YtnekmofpamnceaaW.PrintWords Go.Proofs.YtnekmofpamnceaaW.PrintMore
set_option linter.unusedVariables false

def logOk (l : List ByteArray) (n : Int) (s : ByteArray) : Bool := if (l.length : Int) ≤ 200 then (n == (headOf l).1 && (s.toList == (headOf l).2.toList)) else false
theorem spec_LogOk_ev (l : List ByteArray) (n : Int) (s : ByteArray) (hs : ∀ x ∈ l, x.size ≤ bigB) : Ev (fun k => spec_LogOk.f k l n s) (logOk l n s) := by
  unfold spec_LogOk.f logOk
  by_cases h : (l.length : Int) ≤ 200
  · rw [if_pos h]
    exact Ev.pos h (Ev.bind (spec_HeadOf_ev l hs) (Ev.now _))
  · rw [if_neg h]
    exact Ev.neg h (Ev.now _)
theorem impl_LogOk_ev (l : List ByteArray) (n : Int) (s : ByteArray) (hs : ∀ x ∈ l, x.size ≤ bigB) : Ev (fun k => impl_LogOk.f k l n s) (logOk l n s) := by
  unfold impl_LogOk.f logOk
  by_cases h : (l.length : Int) ≤ 200
  · rw [if_pos h]
    exact Ev.pos h (Ev.bind (impl_HeadOf_ev l hs) (Ev.now _))
  · rw [if_neg h]
    exact Ev.neg h (Ev.now _)
end Go.Proofs.Ytnekmofpamnceaa.Q
