/- What the laws' own helpers do with edges: the weight, the copy, an edge equals itself. -/
import Derived.Test.YtnekmofpamnceaaJB3
import Derived.Test.YtnekmofpamnceaaQf49
import Derived.Test.YtnekmofpamnceaaQf51
import Derived.Test.YtnekmofpamnceaaQf23
namespace Go.Proofs.Ytnekmofpamnceaa.Q
open Go.RowKit Go.Proofs.Ytnekmofpamnceaa.B Go.Proofs.YtnekmofpamnceaaW.PrintWords
set_option linter.unusedVariables false

theorem szEdge_ev (n : Int) (l : List ByteArray) (left : Int) (h0 : 0 ≤ left) (h1 : left ≤ 1048576) (hl : l.length ≤ 9223372036854775807) (hg : ∀ x ∈ l, x.size ≤ 9223372036854775807) :
    ∃ r, Ev (fun k => laws_szEdge.f k n l left) r ∧ (r < 0 ∨ 0 ≤ r ∧ r + l.length + total l = left) := by
  obtain ⟨a, ha, hc⟩ := szStringS_ev l left h0 h1 hl hg
  unfold laws_szEdge.f
  rcases hc with hc | ⟨hc, hc1⟩
  · exact ⟨-1, Ev.bind ha (Ev.pos hc (Ev.now _)), .inl (by omega)⟩
  · exact ⟨a, Ev.bind ha (Ev.neg (by omega) (Ev.now _)), .inr ⟨hc, hc1⟩⟩
theorem toEdge_ev (n : Int) (l : List ByteArray) (hl : l.length ≤ 1048576) : Ev (fun k => laws_toEdge.f k n l) (n, l) := by
  unfold laws_toEdge.f
  exact Ev.bind (toStringS_ev l hl) (Ev.now _)
theorem eqEdge_ev (n : Int) (l : List ByteArray) (hl : l.length ≤ 9223372036854775807) : Ev (fun k => laws_eqEdge.f k n l n l) true := by
  unfold laws_eqEdge.f
  exact Ev.pos rfl (Ev.bind (eqStringS_ev l hl) (Ev.pos rfl (Ev.now _)))
end Go.Proofs.Ytnekmofpamnceaa.Q
