/- The program's root of a list of texts. Plain. -/
import Derived.Test.YtkdlcenchnimlaaJB2
import Derived.Test.YtkdlcenchnimlaaQf41
namespace Go.Proofs.Ytkdlcenchnimlaa.Q
open Go.RowKit Go.Proofs.Ytkdlcenchnimlaa.B Go.Proofs.YtkdlcenchnimlaaW.PrintWords Go.Proofs.YtkdlcenchnimlaaW.PrintMore
set_option linter.unusedVariables false

theorem impl_RootOf_ev (l : List ByteArray) (hl : l.length ≤ 200) (hs : ∀ x ∈ l, x.size ≤ bigB) : Ev (fun k => impl_RootOf.f k l) (rootBy leafH l) := by
  unfold impl_RootOf.f
  exact Ev.neg (by omega) (Ev.bind (rooted_impl l.length l (Nat.le_refl _) (by omega) hs) (Ev.now _))
end Go.Proofs.Ytkdlcenchnimlaa.Q
