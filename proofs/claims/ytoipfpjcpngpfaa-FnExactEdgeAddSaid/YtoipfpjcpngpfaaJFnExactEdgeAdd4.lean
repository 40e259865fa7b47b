-- Joined by a program of this session (wip/tools/merge.py): texts of mine and of pp.sh.
import Derived.Test.YtoipfpjcpngpfaaJFnExactEdgeAdd3
import Derived.Test.YtoipfpjcpngpfaaRows
import Derived.WalkKit
import Derived.ProofKit
import Derived.OpenShut
import Derived.ShutString
import Derived.ChangeOld
import Derived.Below
import Derived.SizedLaws
import Derived.Carry
section
/- The row of the law FnExactEdgeAdd out of its pure statement and the printed walk. -/
namespace Go.Proofs.Ytoipfpjcpngpfaa.Q
open Go.RowKit Go.Proofs.Ytoipfpjcpngpfaa.XO Go.Proofs.YtoipfpjcpngpfaaW.PrintWords Go.ChangeShapes Go.WideShapes Go.ChangeAt
set_option linter.unusedVariables false
set_option linter.unusedSimpArgs false
def laws_FnExactEdgeAdd.Pure : Prop := ∀ (x0 : S59) (x1 : ByteArray), G59 x0 → x1.size ≤ 9223372036854775807 → ∃ k, laws_FnExactEdgeAdd.f k x0.f0 x0.f1 x1 = some true
namespace RFnExactEdgeAdd
theorem own : ownKnob Try.prog.godebug = none := by kernel_rfl
theorem laidOut : laidOutB Try.prog = true := by kernel_rfl
set_option maxRecDepth 100000 in
theorem lifted (PU : laws_FnExactEdgeAdd.Pure) (os : Os) (started : os.Started) (H : Type) (enc : TypeId × Value → H) :
    ReturnsInHanded {} Try.checked os 7 .any (Rows.fnExactEdgeAddSpec.pre6 enc Try.prog Try.f7 Rows.fnExactEdgeAddRow.domain false) (Rows.fnExactEdgeAddSpec.post enc Try.prog Try.f7 false true false false) := by
  refine returnsInHanded_of_change_sized (C := Try.checked) own started (by kernel_rfl) Try.func7
    (ChangeSpec.witness6 (enc := enc) (C := Try.checked) false ⟨#[], #[.agg #[.int .i64 0, .slice none 0 0], .string ByteArray.empty], []⟩ 8 (by kernel_rfl) (by kernel_rfl) (by kernel_rfl) (by kernel_rfl)) ?_
  intro W base args ds gs before hval0 hW hcnd hsz0 _
  have hval : ∀ (j : Nat) t v, Try.f7.params[j]? = some t → args[j]? = some v → Value.okWide Try.prog W .any base t v := hval0
  have hW' := hW
  obtain ⟨p, q, hA0, hV, rfl, hfz, hnd⟩ := hW
  have hA : DataW.TrodAll enc Try.prog W 0 (fun _ => true) true Try.f7.params.toList args.toList ds p := hA0
  rw [Try.params7] at hA hval
  obtain ⟨v0, vs0, d0, ds0, p0, q0, hargs, rfl, rfl, h0, r0⟩ := trodAll_cons hA
  obtain ⟨v1, vs1, d1, ds1, p1, q1, rfl, rfl, rfl, h1, r1⟩ := trodAll_cons r0
  obtain ⟨rfl, rfl, rfl⟩ := trodAll_nil r1
  obtain rfl : args = #[v0, v1] := by cases args; simp_all
  obtain ⟨rfl, rfl⟩ := trodVars_none hV
  have kk0 := h0
  have lt0 : ∀ x ∈ p0, x.block < W.heap.size := by obtain ⟨m, hm⟩ := kk0; exact DataW.trod_lt m _ _ _ hm
  obtain ⟨cs0, rfl, _⟩ := okWide_struct Try.underlying59 (hval 0 59 v0 rfl rfl)
  obtain ⟨fu0, hf0⟩ := h0
  obtain ⟨x0, hK0, g0⟩ := opens59 hf0
  obtain ⟨A0_1, c0_1, he0, hc0_1, hr0_1⟩ := k59_open hK0
  obtain rfl : cs0 = #[.int .i64 x0.f0, .slice A0_1 x0.f1.length c0_1] := by cases cs0; simpa [Value.cells] using he0
  have kk1 := h1
  have lt1 : ∀ x ∈ p1, x.block < W.heap.size := by obtain ⟨m, hm⟩ := kk1; exact DataW.trod_lt m _ _ _ hm
  obtain ⟨x1, rfl, rfl, rfl, y1⟩ := Go.ChangeMaps.open_string Try.underlying9 (hval 1 9 v1 rfl rfl) h1
  have g1 : x1.size ≤ 9223372036854775807 := by simpa [maxLen] using y1
  clear hA0 hval0 hsz0
  obtain ⟨k, hp⟩ := PU x0 x1 g0 g1
  refine (laws_FnExactEdgeAdd.calls k x0.f0 _ _ x0.f1 x1 true W hr0_1 hc0_1 hp).mono fun e W' ⟨he, bel0⟩ => ?_
  have bel : Below W.heap.size W W' := bel0
  subst he
  exact ⟨_, rfl, _, _, _, [], _, [], hW', trodAll_mk1 (shut_bool Try.underlying4 _), (trodAll_cons_mk (Below.trod laidOut (by kernel_rfl) (of_decide_eq_true (by kernel_rfl)) kk0 bel lt0) (trodAll_cons_mk (Below.trod laidOut (by kernel_rfl) (of_decide_eq_true (by kernel_rfl)) kk1 bel lt1) trodAll_mk0)), rfl, bel.frame _, fun h => by cases h⟩
theorem over (PU : laws_FnExactEdgeAdd.Pure) : Rows.fnExactEdgeAddRow.holds Try.pinned (OpenSpec.ofChange Rows.fnExactEdgeAddSpec) :=
  OpenClaim.holds_of_wide 7 Try.f7 rfl rfl rfl rfl rfl rfl rfl ⟨rfl, rfl, rfl, rfl, rfl⟩ rfl rfl rfl rfl rfl (by kernel_rfl) Try.func7 (by kernel_rfl)
    (of_decide_eq_true (by kernel_rfl)) (by unfold Func.isWrapper; first | (rw [if_pos (by decide +kernel)]; kernel_rfl) | (rw [if_neg (by decide +kernel)]; exact ⟨rfl, rfl⟩))
    (fun os started H enc _ => lifted PU os started H enc)
end RFnExactEdgeAdd
theorem FnExactEdgeAdd_row (PU : laws_FnExactEdgeAdd.Pure) : Rows.FnExactEdgeAddSaid := RFnExactEdgeAdd.over PU
end Go.Proofs.Ytoipfpjcpngpfaa.Q
end

section
/- The program's EdgeAdd and the reference's return the same for every edge and text; no condition. -/
namespace Go.Proofs.Ytoipfpjcpngpfaa.Q
open Go.RowKit Go.Proofs.Ytoipfpjcpngpfaa.B Go.Proofs.YtoipfpjcpngpfaaW.PrintWords

theorem pure_FnExactEdgeAdd : laws_FnExactEdgeAdd.Pure := by
  intro x s g gs
  refine Ev.rounds (g := fun k => laws_FnExactEdgeAdd.f k x.f0 x.f1 s) ?_
  obtain ⟨g3, g1, g2⟩ := g
  generalize x.f0 = n at *
  generalize x.f1 = l at *
  unfold laws_FnExactEdgeAdd.f
  by_cases hb : (s.size : Int) > 1048576
  · exact Ev.pos hb (Ev.now _)
  · refine Ev.neg hb ?_
    obtain ⟨r, hr, hc⟩ := szEdge_ev n l 1048576 (by omega) (by omega) g1 g2
    refine Ev.bind hr ?_
    rcases hc with hc | ⟨hc, hc1⟩
    · exact Ev.pos hc (Ev.now _)
    · have ht := total_nonneg l
      have hT := toEdge_ev n l (by omega)
      have h1 := spec_EdgeAdd_ev n l s (by omega) (by omega)
      have h2 := impl_EdgeAdd_all n l s (by omega) (by omega)
      have hq := edgeAdd_length n l s (by omega)
      generalize edgeAdd n l s = q at h1 h2 hq
      have hE := eqEdge_ev q.1 q.2.1 (by omega)
      obtain ⟨M, hM, hM1, hM2⟩ := markEdge_ev n l 1 (by omega) (by omega)
      obtain ⟨m, hm, hm1, hm2⟩ := markEdge_ev q.1 q.2.1 1 (by omega) (by omega)
      have hh := heldEdge_ev q.1 m 1 (by omega) (by omega) hm2
      rw [hm1] at hh
      have hbb : (q.2.2 != q.2.2) = false := by simp
      refine Ev.neg (by omega) (Ev.bind hT (Ev.bind h1 (Ev.bind hT (Ev.bind (Ev.const h2) (Ev.bind hE (Ev.pos rfl ?_))))))
      simp only [hbb]
      refine Ev.step (fun k => by simp only [laws_FnExactEdgeAdd.j0]; rfl) ?_
      refine Ev.neg (by simp) (Ev.bind hT (Ev.bind (eqEdge_ev n l (by omega)) (Ev.pos rfl (Ev.bind hM (Ev.neg (by omega) (Ev.bind hE (Ev.pos rfl ?_)))))))
      simp only [hbb]
      refine Ev.step (fun k => by simp only [laws_FnExactEdgeAdd.j1]; rfl) ?_
      refine Ev.neg (by simp) (Ev.bind hm (Ev.bind hh (Ev.neg (by omega) (Ev.pos rfl (Ev.bind hT (Ev.bind (Ev.const h2) (Ev.bind hE (Ev.pos rfl ?_))))))))
      simp only [hbb]
      refine Ev.step (fun k => by simp only [laws_FnExactEdgeAdd.j2]; rfl) ?_
      exact Ev.neg (by simp) (Ev.bind hh (Ev.neg (by omega) (Ev.pos rfl (Ev.now _))))
end Go.Proofs.Ytoipfpjcpngpfaa.Q
namespace Go.Proofs.Ytoipfpjcpngpfaa
theorem fnExactEdgeAdd_holds : Rows.FnExactEdgeAddSaid := Q.FnExactEdgeAdd_row Q.pure_FnExactEdgeAdd
end Go.Proofs.Ytoipfpjcpngpfaa
end
