/- What the laws' own helpers do with logs: the weight, the copy, a log equals itself. -/
import Derived.Test.YtnekmofpamnceaaJB3
import Derived.Test.YtnekmofpamnceaaQf40
import Derived.Test.YtnekmofpamnceaaQf42
import Derived.Test.YtnekmofpamnceaaQf37
namespace Go.Proofs.Ytnekmofpamnceaa.Q
open Go.RowKit Go.Proofs.Ytnekmofpamnceaa.B Go.Proofs.YtnekmofpamnceaaW.PrintWords
set_option linter.unusedVariables false

theorem szLog_ev (l : List ByteArray) (n : Int) (s : ByteArray) (left : Int) (h0 : 0 ≤ left) (h1 : left ≤ 1048576) (hl : l.length ≤ 9223372036854775807) (hg : ∀ x ∈ l, x.size ≤ 9223372036854775807) (hs : s.size ≤ 9223372036854775807) :
    ∃ r, Ev (fun k => laws_szLog.f k l n s left) r ∧ (r < 0 ∨ 0 ≤ r ∧ r + l.length + total l + s.size = left) := by
  obtain ⟨a, ha, hc⟩ := szStringS_ev l left h0 h1 hl hg
  unfold laws_szLog.f
  rcases hc with hc | ⟨hc, hc1⟩
  · exact ⟨-1, Ev.bind ha (Ev.pos hc (Ev.now _)), .inl (by omega)⟩
  · have ht := total_nonneg l
    obtain ⟨b, hb, hd⟩ := szHead_eq n s a hc (by omega) hs
    rcases hd with hd | ⟨hd, hd1⟩
    · exact ⟨-1, Ev.bind ha (Ev.neg (by omega) (Ev.bind (Ev.const hb) (Ev.pos hd (Ev.now _)))), .inl (by omega)⟩
    · exact ⟨b, Ev.bind ha (Ev.neg (by omega) (Ev.bind (Ev.const hb) (Ev.neg (by omega) (Ev.now _)))), .inr ⟨hd, by omega⟩⟩
theorem toLog_ev (l : List ByteArray) (n : Int) (s : ByteArray) (hl : l.length ≤ 1048576) : Ev (fun k => laws_toLog.f k l n s) (l, n, s) := by
  unfold laws_toLog.f
  refine Ev.bind (toStringS_ev l hl) ?_
  simp only [toHead_eq, Option.bind_some]
  exact Ev.now _
theorem eqLog_ev (l : List ByteArray) (n : Int) (s : ByteArray) (hl : l.length ≤ 9223372036854775807) : Ev (fun k => laws_eqLog.f k l n s l n s) true := by
  unfold laws_eqLog.f
  refine Ev.bind (eqStringS_ev l hl) (Ev.pos rfl ?_)
  refine Ev.bind (Ev.const (eqHead_eq n s)) ?_
  exact Ev.pos rfl (Ev.now _)
end Go.Proofs.Ytnekmofpamnceaa.Q
