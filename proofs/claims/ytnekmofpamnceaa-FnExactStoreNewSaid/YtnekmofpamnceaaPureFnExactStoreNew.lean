/- The program's StoreNew and the reference's return the same; no condition. -/
import Derived.Test.YtnekmofpamnceaaHStoreE
import Derived.Test.YtnekmofpamnceaaHStoreM
import Derived.Test.YtnekmofpamnceaaHStoreH
import Derived.Test.YtnekmofpamnceaaStoreNew
import Derived.Test.YtnekmofpamnceaaLawFnExactStoreNew
namespace Go.Proofs.Ytnekmofpamnceaa.Q
open Go.RowKit Go.Proofs.Ytnekmofpamnceaa.B Go.Proofs.YtnekmofpamnceaaW.PrintWords

theorem pure_FnExactStoreNew : laws_FnExactStoreNew.Pure := by
  refine Ev.rounds (g := fun k => laws_FnExactStoreNew.f k) ?_
  unfold laws_FnExactStoreNew.f
  have hE := eqStore_ev [] (headOf []).1 (headOf []).2 [] 0 (by simp) (by simp)
  obtain ⟨m, hm, hm1, hm2⟩ := markStore_ev [] (headOf []).1 (headOf []).2 [] 0 1 (by omega) (by simp)
  have hh := heldStore_ev m (headOf []).1 (headOf []).2 0 0 1 (by omega) (by simp at hm1; simp [hm1]) hm2
  rw [hm1] at hh
  exact Ev.bind spec_StoreNew_ev (Ev.bind impl_StoreNew_ev (Ev.bind hE (Ev.pos rfl (Ev.bind hm (Ev.bind hh (Ev.neg (by simp) (Ev.pos rfl (Ev.bind impl_StoreNew_ev (Ev.bind hE (Ev.pos rfl (Ev.bind hh (Ev.neg (by simp) (Ev.pos rfl (Ev.now _))))))))))))))
end Go.Proofs.Ytnekmofpamnceaa.Q
namespace Go.Proofs.Ytnekmofpamnceaa
theorem fnExactStoreNew_holds : Rows.FnExactStoreNewSaid := Q.FnExactStoreNew_row Q.pure_FnExactStoreNew
end Go.Proofs.Ytnekmofpamnceaa
