-- Joined and shortened by a program of this session (wip/tools/shakecopy.py): the words of the print, texts of pp.sh and of mine.
import Derived.Test.YtcogimnpffnanaaKFnExactGetMsg6
import Derived.Deep.Slices
import Derived.ChangeArms
import Derived.Test.YtcogimnpffnanaaRows
import Derived.WalkKit
import Derived.ProofKit
import Derived.OpenShut
import Derived.ShutString
import Derived.ChangeOld
import Derived.Below
import Derived.SizedLaws
import Derived.Carry
section
-- Written by a program of this session (wip/tools/pp.sh) over the print of the kit.
namespace Go.Proofs.Ytcogimnpffnanaa.Q
open Go.RowKit Go.Proofs.YtcogimnpffnanaaW.PrintWords Go.Proofs.YtcogimnpffnanaaW.PrintLast Go.Proofs.YtcogimnpffnanaaW.PrintMore
attribute [local go_sem] max2_int min2_int max_two min_two max_three min_three max_four min_four   -- for this text's walks alone
set_option linter.unusedVariables false
set_option linter.unusedSimpArgs false

end Go.Proofs.Ytcogimnpffnanaa.Q
end

section
/- A message read: the program's GetMsg and the reference's are one. Plain. -/
namespace Go.Proofs.Ytcogimnpffnanaa.Q
open Go.RowKit Go.Proofs.Ytcogimnpffnanaa.B Go.Proofs.YtcogimnpffnanaaW.PrintWords Go.Proofs.YtcogimnpffnanaaW.PrintMore
set_option linter.unusedVariables false
set_option linter.unusedSimpArgs false

def msgKind (k d n : Int) (l : List ByteArray) : Bool := if k = 1 then (if n = 0 then ((l.length : Int) == 0) else false) else (if k = 2 then (if n < d then ((l.length : Int) == 0) else false) else (if k = 3 then (if n < d then ((l.length : Int) == (wrap64 (d - n))) else false) else false))
def msgOk (k f t d : Int) (s : ByteArray) (n : Int) (l : List ByteArray) : Bool := if (0 ≤ f ∧ f ≤ 20) ∧ (0 ≤ t ∧ t ≤ 20) ∧ ¬ f = t ∧ headOk d s = true ∧ (0 ≤ n ∧ n ≤ 200) then msgKind k d n l else false
theorem spec_j_ev (x : Bool) (k f t d : Int) (s : ByteArray) (n : Int) (l : List ByteArray) : Ev (fun q => spec_MsgOk.j0 q x k f t d s n l) (if x = true then false else msgKind k d n l) := by
 refine Ev.step (f := fun _ => some (if x = true then false else msgKind k d n l)) (fun q => ?_) (Ev.now _)
 simp only [spec_MsgOk.j0]
 unfold msgKind
 repeat' split
 all_goals first | rfl | simp_all
theorem impl_j_ev (x : Bool) (k f t d : Int) (s : ByteArray) (n : Int) (l : List ByteArray) : Ev (fun q => impl_MsgOk.j0 q x k f t d s n l) (if x = true then false else msgKind k d n l) := by
 refine Ev.step (f := fun _ => some (if x = true then false else msgKind k d n l)) (fun q => ?_) (Ev.now _)
 simp only [impl_MsgOk.j0]
 unfold msgKind
 repeat' split
 all_goals first | rfl | simp_all
theorem isId_eq (x : Int) : impl_isId.f x = some (decide (0 ≤ x ∧ x ≤ 20)) := by
 unfold impl_isId.f
 rw [impl_in_eq]
 rfl
theorem spec_MsgOk_ev (k f t d : Int) (s : ByteArray) (n : Int) (l : List ByteArray) : Ev (fun q => spec_MsgOk.f q k f t d s n l) (msgOk k f t d s n l) := by
 unfold spec_MsgOk.f msgOk
 have J := fun x => spec_j_ev x k f t d s n l
 have Jt := J true
 rw [if_pos rfl] at Jt
 by_cases h1 : 0 ≤ f ∧ f ≤ 20
 ·refine Ev.bind (Ev.const (spec_in_eq _ _ _)) (Ev.pos (decide_eq_true h1) ?_)
  by_cases h2 : 0 ≤ t ∧ t ≤ 20
  ·refine Ev.bind (Ev.const (spec_in_eq _ _ _)) (Ev.pos (decide_eq_true h2) ?_)
   by_cases h3 : f = t
   ·rw [if_neg (fun q => q.2.2.1 h3)]
    exact Ev.pos h3 Jt
   ·refine Ev.neg h3 (Ev.bind (Ev.const (spec_HeadOk_eq _ _)) ?_)
    by_cases h4 : headOk d s = true
    ·refine Ev.pos h4 (Ev.bind (Ev.const (spec_in_eq _ _ _)) ?_)
     by_cases h5 : 0 ≤ n ∧ n ≤ 200
     ·rw [if_pos ⟨h1, h2, h3, h4, h5⟩, decide_eq_true h5]
      have j := J false
      rw [if_neg (by simp)] at j
      exact j
     ·rw [if_neg (fun q => h5 q.2.2.2.2), decide_eq_false h5]
      exact Jt
    ·rw [if_neg (fun q => h4 q.2.2.2.1)]
     exact Ev.neg h4 Jt
  ·rw [if_neg (fun q => h2 q.2.1)]
   exact Ev.bind (Ev.const (spec_in_eq _ _ _)) (Ev.neg (by rw [decide_eq_false h2]; simp) Jt)
 ·rw [if_neg (fun q => h1 q.1)]
  exact Ev.bind (Ev.const (spec_in_eq _ _ _)) (Ev.neg (by rw [decide_eq_false h1]; simp) Jt)
theorem impl_MsgOk_ev (k f t d : Int) (s : ByteArray) (n : Int) (l : List ByteArray) : Ev (fun q => impl_MsgOk.f q k f t d s n l) (msgOk k f t d s n l) := by
 unfold impl_MsgOk.f msgOk
 have J := fun x => impl_j_ev x k f t d s n l
 have Jt := J true
 rw [if_pos rfl] at Jt
 by_cases h1 : 0 ≤ f ∧ f ≤ 20
 ·refine Ev.bind (Ev.const (isId_eq _)) (Ev.pos (decide_eq_true h1) ?_)
  by_cases h2 : 0 ≤ t ∧ t ≤ 20
  ·refine Ev.bind (Ev.const (isId_eq _)) (Ev.pos (decide_eq_true h2) ?_)
   by_cases h3 : f = t
   ·rw [if_neg (fun q => q.2.2.1 h3)]
    exact Ev.pos h3 Jt
   ·refine Ev.neg h3 (Ev.bind (Ev.const (impl_HeadOk_eq _ _)) ?_)
    by_cases h4 : headOk d s = true
    ·refine Ev.pos h4 (Ev.bind (Ev.const (impl_in_eq _ _ _)) ?_)
     by_cases h5 : 0 ≤ n ∧ n ≤ 200
     ·rw [if_pos ⟨h1, h2, h3, h4, h5⟩, decide_eq_true h5]
      have j := J false
      rw [if_neg (by simp)] at j
      exact j
     ·rw [if_neg (fun q => h5 q.2.2.2.2), decide_eq_false h5]
      exact Jt
    ·rw [if_neg (fun q => h4 q.2.2.2.1)]
     exact Ev.neg h4 Jt
  ·rw [if_neg (fun q => h2 q.2.1)]
   exact Ev.bind (Ev.const (isId_eq _)) (Ev.neg (by rw [decide_eq_false h2]; simp) Jt)
 ·rw [if_neg (fun q => h1 q.1)]
  exact Ev.bind (Ev.const (isId_eq _)) (Ev.neg (by rw [decide_eq_false h1]; simp) Jt)
theorem msgOk_parts {k f t d n : Int} {s : ByteArray} {l : List ByteArray} (h : msgOk k f t d s n l = true) : (0 ≤ k ∧ k ≤ 3) ∧ (0 ≤ f ∧ f ≤ 20) ∧ (0 ≤ t ∧ t ≤ 20) ∧ (0 ≤ d ∧ d ≤ 200) ∧ s.size = 32 ∧ (0 ≤ n ∧ n ≤ 200) ∧ l.length ≤ 200 := by
 unfold msgOk at h
 by_cases hc : (0 ≤ f ∧ f ≤ 20) ∧ (0 ≤ t ∧ t ≤ 20) ∧ ¬ f = t ∧ headOk d s = true ∧ (0 ≤ n ∧ n ≤ 200)
 ·rw [if_pos hc] at h
  obtain ⟨h1, h2, h3, h4, h5⟩ := hc
  obtain ⟨d1, d2, d3⟩ := headOk_parts h4
  unfold msgKind at h
  by_cases k1 : k = 1
  ·rw [if_pos k1] at h
   by_cases n0 : n = 0
   ·rw [if_pos n0] at h
    have := beq_iff_eq.1 h
    exact ⟨by omega, h1, h2, ⟨d1, d2⟩, d3, h5, by omega⟩
   ·rw [if_neg n0] at h
    cases h
  ·rw [if_neg k1] at h
   by_cases k2 : k = 2
   ·rw [if_pos k2] at h
    by_cases nd : n < d
    ·rw [if_pos nd] at h
     have := beq_iff_eq.1 h
     exact ⟨by omega, h1, h2, ⟨d1, d2⟩, d3, h5, by omega⟩
    ·rw [if_neg nd] at h
     cases h
   ·rw [if_neg k2] at h
    by_cases k3 : k = 3
    ·rw [if_pos k3] at h
     by_cases nd : n < d
     ·rw [if_pos nd] at h
      have := beq_iff_eq.1 h
      rw [w64 (by omega) (by omega)] at this
      exact ⟨by omega, h1, h2, ⟨d1, d2⟩, d3, h5, by omega⟩
     ·rw [if_neg nd] at h
      cases h
    ·rw [if_neg k3] at h
     cases h
 ·rw [if_neg hc] at h
  cases h
/-- The bytes of a message. -/
def msgB (a b c d : Nat) (s : ByteArray) (n : Nat) (t : List ByteArray) : List Int := num a ++ (num b ++ (num c ++ (num d ++ (textB s ++ (num n ++ textsB t)))))
theorem implPut_val (a b c d : Nat) (s : ByteArray) (n : Nat) (t : List ByteArray) (hk : msgOk a b c d s n t = true) (htt : total t ≤ 1000000000) (hx : ∀ x ∈ t, x.size ≤ 1000000000) : Ev (fun q => impl_PutMsg.f q a b c d s n t) (msgB a b c d s n t) := by
 obtain ⟨p1, p2, p3, p4, p5, p6, p7⟩ := msgOk_parts hk
 have ht0 := total_nonneg t
 have h1 := num_five (show a ≤ 1000000000 by omega)
 have h2 := num_five (show b ≤ 1000000000 by omega)
 have h3 := num_five (show c ≤ 1000000000 by omega)
 have h4 := num_five (show d ≤ 1000000000 by omega)
 have h5 := num_five (show n ≤ 1000000000 by omega)
 have h6 := num_five (show s.size ≤ 1000000000 by omega)
 have hs := textB_length s
 have e1 := (putNum_val [] a (by omega) (by simp)).2
 have e2 := (putNum_val ([] ++ num a) b (by omega) (by simp; omega)).2
 have e3 := (putNum_val ([] ++ num a ++ num b) c (by omega) (by simp; omega)).2
 have e4 := (putNum_val ([] ++ num a ++ num b ++ num c) d (by omega) (by simp; omega)).2
 have e5 := (putText_val ([] ++ num a ++ num b ++ num c ++ num d) s (by omega) (by simp; omega)).2
 have e6 := (putNum_val ([] ++ num a ++ num b ++ num c ++ num d ++ textB s) n (by omega) (by simp; omega)).2
 have e7 := (putTexts_val ([] ++ num a ++ num b ++ num c ++ num d ++ textB s ++ num n) t (by simp; omega) (by omega) hx).2
 have eb : [] ++ num a ++ num b ++ num c ++ num d ++ textB s ++ num n ++ textsB t = msgB a b c d s n t := by
  unfold msgB
  simp
 rw [eb] at e7
 unfold impl_PutMsg.f
 exact Ev.bind (impl_MsgOk_ev _ _ _ _ _ _ _) (Ev.pos hk (Ev.bind e1 (Ev.bind e2 (Ev.bind e3 (Ev.bind e4 (Ev.bind e5 (Ev.bind e6 e7)))))))
theorem msgB_inB (a b c d : Nat) (s : ByteArray) (n : Nat) (t : List ByteArray) : InB (msgB a b c d s n t) := inB_app (num_inB _) (inB_app (num_inB _) (inB_app (num_inB _) (inB_app (num_inB _) (inB_app (textB_inB _) (inB_app (num_inB _) (textsB_inB _))))))
set_option maxHeartbeats 2000000 in
theorem getMsg_both (b : List Int) (hb : InB b) (hl : b.length ≤ 10000000) : ∃ k f t d s n l ok, Ev (fun q => spec_GetMsg.f q b) (k, f, t, d, s, n, l, ok) ∧ Ev (fun q => impl_GetMsg.f q b) (k, f, t, d, s, n, l, ok) ∧ l.length ≤ 200 ∧
  (ok = true → ∃ k' f' t' d' n' : Nat, k = (k' : Int) ∧ f = (f' : Int) ∧ t = (t' : Int) ∧ d = (d' : Int) ∧ n = (n' : Int) ∧ msgOk k f t d s n l = true ∧ b = msgB k' f' t' d' s n' l ∧ total l ≤ 1000000000 ∧ ∀ x ∈ l, x.size ≤ 1000000000) ∧
  (ok = false → ∀ (k' f' t' d' : Nat) (s' : ByteArray) (n' : Nat) (l' : List ByteArray), b = msgB k' f' t' d' s' n' l' → msgOk k' f' t' d' s' n' l' = true → (∀ x ∈ l', x.size ≤ 1000000000) → False) := by
 unfold spec_GetMsg.f impl_GetMsg.f
 rcases num_step b hb (by omega) 0 (by omega) with ⟨s0, g0, z0⟩ | ⟨v0, p1, h0, l0, y0, q0, s0, g0⟩
 ·obtain ⟨m1, x1, o1, s1, r1⟩ := num_any b hb (by omega) 0 (by omega)
  obtain ⟨m2, x2, o2, s2, r2⟩ := num_any b hb (by omega) x1 (by omega)
  obtain ⟨m3, x3, o3, s3, r3⟩ := num_any b hb (by omega) x2 (by omega)
  obtain ⟨m4, x4, o4, s4, r4⟩ := text_any b hb (by omega) x3 (by omega)
  obtain ⟨m5, x5, o5, s5, r5⟩ := num_any b hb (by omega) x4 (by omega)
  obtain ⟨m6, x6, o6, s6, r6⟩ := texts_any b hb (by omega) x5 (by omega)
  refine ⟨0, 0, 0, 0, ⟨#[]⟩, 0, [], false, (Ev.bind s0 (Ev.bind s1 (Ev.bind s2 (Ev.bind s3 (Ev.bind s4 (Ev.bind s5 (Ev.bind s6 (Ev.neg (by simp) (Ev.now _))))))))), (Ev.bind g0 (Ev.bind (gnum_bad b hb (by omega) 0 (by omega) (by omega)) (Ev.bind (gnum_bad b hb (by omega) 0 (by omega) (by omega)) (Ev.bind (gnum_bad b hb (by omega) 0 (by omega) (by omega)) (Ev.bind (gtext_bad b hb (by omega) 0 (by omega) (by omega)) (Ev.bind (gnum_bad b hb (by omega) 0 (by omega) (by omega)) (Ev.bind (gtexts_bad b hb (by omega) 0 (by omega) (by omega)) (Ev.pos rfl (Ev.now _))))))))), by simp, fun h => (by cases h), fun _ k' f' t' d' s' n' l' hm hk hx => ?_⟩
  obtain ⟨c1, c2, c3, c4, c5, c6, c7⟩ := msgOk_parts hk
  have d0 : b.drop 0 = num k' ++ (num f' ++ (num t' ++ (num d' ++ (textB s' ++ (num n' ++ textsB l'))))) := hm
  exact z0 k' _ d0 (by omega)
 ·skip
  rcases num_step b hb (by omega) p1 (by omega) with ⟨s1, g1, z1⟩ | ⟨v1, p2, h1, l1, y1, q1, s1, g1⟩
  ·obtain ⟨m2, x2, o2, s2, r2⟩ := num_any b hb (by omega) 0 (by omega)
   obtain ⟨m3, x3, o3, s3, r3⟩ := num_any b hb (by omega) x2 (by omega)
   obtain ⟨m4, x4, o4, s4, r4⟩ := text_any b hb (by omega) x3 (by omega)
   obtain ⟨m5, x5, o5, s5, r5⟩ := num_any b hb (by omega) x4 (by omega)
   obtain ⟨m6, x6, o6, s6, r6⟩ := texts_any b hb (by omega) x5 (by omega)
   refine ⟨0, 0, 0, 0, ⟨#[]⟩, 0, [], false, (Ev.bind s0 (Ev.bind s1 (Ev.bind s2 (Ev.bind s3 (Ev.bind s4 (Ev.bind s5 (Ev.bind s6 (Ev.pos rfl (Ev.neg (by simp) (Ev.now _)))))))))), (Ev.bind g0 (Ev.bind g1 (Ev.bind (gnum_bad b hb (by omega) (p1 : Int) (by omega) (by omega)) (Ev.bind (gnum_bad b hb (by omega) (p1 : Int) (by omega) (by omega)) (Ev.bind (gtext_bad b hb (by omega) (p1 : Int) (by omega) (by omega)) (Ev.bind (gnum_bad b hb (by omega) (p1 : Int) (by omega) (by omega)) (Ev.bind (gtexts_bad b hb (by omega) (p1 : Int) (by omega) (by omega)) (Ev.pos rfl (Ev.now _))))))))), by simp, fun h => (by cases h), fun _ k' f' t' d' s' n' l' hm hk hx => ?_⟩
   obtain ⟨c1, c2, c3, c4, c5, c6, c7⟩ := msgOk_parts hk
   have d0 : b.drop 0 = num k' ++ (num f' ++ (num t' ++ (num d' ++ (textB s' ++ (num n' ++ textsB l'))))) := hm
   have d1 := (num_inj _ _ _ _ (y0.symm.trans d0)).2
   exact z1 f' _ d1 (by omega)
  ·skip
   rcases num_step b hb (by omega) p2 (by omega) with ⟨s2, g2, z2⟩ | ⟨v2, p3, h2, l2, y2, q2, s2, g2⟩
   ·obtain ⟨m3, x3, o3, s3, r3⟩ := num_any b hb (by omega) 0 (by omega)
    obtain ⟨m4, x4, o4, s4, r4⟩ := text_any b hb (by omega) x3 (by omega)
    obtain ⟨m5, x5, o5, s5, r5⟩ := num_any b hb (by omega) x4 (by omega)
    obtain ⟨m6, x6, o6, s6, r6⟩ := texts_any b hb (by omega) x5 (by omega)
    refine ⟨0, 0, 0, 0, ⟨#[]⟩, 0, [], false, (Ev.bind s0 (Ev.bind s1 (Ev.bind s2 (Ev.bind s3 (Ev.bind s4 (Ev.bind s5 (Ev.bind s6 (Ev.pos rfl (Ev.pos rfl (Ev.neg (by simp) (Ev.now _))))))))))), (Ev.bind g0 (Ev.bind g1 (Ev.bind g2 (Ev.bind (gnum_bad b hb (by omega) (p2 : Int) (by omega) (by omega)) (Ev.bind (gtext_bad b hb (by omega) (p2 : Int) (by omega) (by omega)) (Ev.bind (gnum_bad b hb (by omega) (p2 : Int) (by omega) (by omega)) (Ev.bind (gtexts_bad b hb (by omega) (p2 : Int) (by omega) (by omega)) (Ev.pos rfl (Ev.now _))))))))), by simp, fun h => (by cases h), fun _ k' f' t' d' s' n' l' hm hk hx => ?_⟩
    obtain ⟨c1, c2, c3, c4, c5, c6, c7⟩ := msgOk_parts hk
    have d0 : b.drop 0 = num k' ++ (num f' ++ (num t' ++ (num d' ++ (textB s' ++ (num n' ++ textsB l'))))) := hm
    have d1 := (num_inj _ _ _ _ (y0.symm.trans d0)).2
    have d2 := (num_inj _ _ _ _ (y1.symm.trans d1)).2
    exact z2 t' _ d2 (by omega)
   ·skip
    rcases num_step b hb (by omega) p3 (by omega) with ⟨s3, g3, z3⟩ | ⟨v3, p4, h3, l3, y3, q3, s3, g3⟩
    ·obtain ⟨m4, x4, o4, s4, r4⟩ := text_any b hb (by omega) 0 (by omega)
     obtain ⟨m5, x5, o5, s5, r5⟩ := num_any b hb (by omega) x4 (by omega)
     obtain ⟨m6, x6, o6, s6, r6⟩ := texts_any b hb (by omega) x5 (by omega)
     refine ⟨0, 0, 0, 0, ⟨#[]⟩, 0, [], false, (Ev.bind s0 (Ev.bind s1 (Ev.bind s2 (Ev.bind s3 (Ev.bind s4 (Ev.bind s5 (Ev.bind s6 (Ev.pos rfl (Ev.pos rfl (Ev.pos rfl (Ev.neg (by simp) (Ev.now _)))))))))))), (Ev.bind g0 (Ev.bind g1 (Ev.bind g2 (Ev.bind g3 (Ev.bind (gtext_bad b hb (by omega) (p3 : Int) (by omega) (by omega)) (Ev.bind (gnum_bad b hb (by omega) (p3 : Int) (by omega) (by omega)) (Ev.bind (gtexts_bad b hb (by omega) (p3 : Int) (by omega) (by omega)) (Ev.pos rfl (Ev.now _))))))))), by simp, fun h => (by cases h), fun _ k' f' t' d' s' n' l' hm hk hx => ?_⟩
     obtain ⟨c1, c2, c3, c4, c5, c6, c7⟩ := msgOk_parts hk
     have d0 : b.drop 0 = num k' ++ (num f' ++ (num t' ++ (num d' ++ (textB s' ++ (num n' ++ textsB l'))))) := hm
     have d1 := (num_inj _ _ _ _ (y0.symm.trans d0)).2
     have d2 := (num_inj _ _ _ _ (y1.symm.trans d1)).2
     have d3 := (num_inj _ _ _ _ (y2.symm.trans d2)).2
     exact z3 d' _ d3 (by omega)
    ·skip
     rcases text_step b hb (by omega) p4 (by omega) with ⟨s4, g4, z4⟩ | ⟨v4, p5, h4, l4, y4, q4, s4, g4⟩
     ·obtain ⟨m5, x5, o5, s5, r5⟩ := num_any b hb (by omega) 0 (by omega)
      obtain ⟨m6, x6, o6, s6, r6⟩ := texts_any b hb (by omega) x5 (by omega)
      refine ⟨0, 0, 0, 0, ⟨#[]⟩, 0, [], false, (Ev.bind s0 (Ev.bind s1 (Ev.bind s2 (Ev.bind s3 (Ev.bind s4 (Ev.bind s5 (Ev.bind s6 (Ev.pos rfl (Ev.pos rfl (Ev.pos rfl (Ev.pos rfl (Ev.neg (by simp) (Ev.now _))))))))))))), (Ev.bind g0 (Ev.bind g1 (Ev.bind g2 (Ev.bind g3 (Ev.bind g4 (Ev.bind (gnum_bad b hb (by omega) (p4 : Int) (by omega) (by omega)) (Ev.bind (gtexts_bad b hb (by omega) (p4 : Int) (by omega) (by omega)) (Ev.pos rfl (Ev.now _))))))))), by simp, fun h => (by cases h), fun _ k' f' t' d' s' n' l' hm hk hx => ?_⟩
      obtain ⟨c1, c2, c3, c4, c5, c6, c7⟩ := msgOk_parts hk
      have d0 : b.drop 0 = num k' ++ (num f' ++ (num t' ++ (num d' ++ (textB s' ++ (num n' ++ textsB l'))))) := hm
      have d1 := (num_inj _ _ _ _ (y0.symm.trans d0)).2
      have d2 := (num_inj _ _ _ _ (y1.symm.trans d1)).2
      have d3 := (num_inj _ _ _ _ (y2.symm.trans d2)).2
      have d4 := (num_inj _ _ _ _ (y3.symm.trans d3)).2
      exact z4 s' _ d4 (by omega)
     ·skip
      rcases num_step b hb (by omega) p5 (by omega) with ⟨s5, g5, z5⟩ | ⟨v5, p6, h5, l5, y5, q5, s5, g5⟩
      ·obtain ⟨m6, x6, o6, s6, r6⟩ := texts_any b hb (by omega) 0 (by omega)
       refine ⟨0, 0, 0, 0, ⟨#[]⟩, 0, [], false, (Ev.bind s0 (Ev.bind s1 (Ev.bind s2 (Ev.bind s3 (Ev.bind s4 (Ev.bind s5 (Ev.bind s6 (Ev.pos rfl (Ev.pos rfl (Ev.pos rfl (Ev.pos rfl (Ev.pos rfl (Ev.neg (by simp) (Ev.now _)))))))))))))), (Ev.bind g0 (Ev.bind g1 (Ev.bind g2 (Ev.bind g3 (Ev.bind g4 (Ev.bind g5 (Ev.bind (gtexts_bad b hb (by omega) (p5 : Int) (by omega) (by omega)) (Ev.pos rfl (Ev.now _))))))))), by simp, fun h => (by cases h), fun _ k' f' t' d' s' n' l' hm hk hx => ?_⟩
       obtain ⟨c1, c2, c3, c4, c5, c6, c7⟩ := msgOk_parts hk
       have d0 : b.drop 0 = num k' ++ (num f' ++ (num t' ++ (num d' ++ (textB s' ++ (num n' ++ textsB l'))))) := hm
       have d1 := (num_inj _ _ _ _ (y0.symm.trans d0)).2
       have d2 := (num_inj _ _ _ _ (y1.symm.trans d1)).2
       have d3 := (num_inj _ _ _ _ (y2.symm.trans d2)).2
       have d4 := (num_inj _ _ _ _ (y3.symm.trans d3)).2
       have d5 := (textB_inj (y4.symm.trans d4)).2
       exact z5 n' _ d5 (by omega)
      ·skip
       rcases texts_step b hb (by omega) p6 (by omega) with ⟨s6, g6, z6⟩ | ⟨v6, p7, h6, hs6, l6, y6, q6, s6, g6⟩
       ·refine ⟨0, 0, 0, 0, ⟨#[]⟩, 0, [], false, (Ev.bind s0 (Ev.bind s1 (Ev.bind s2 (Ev.bind s3 (Ev.bind s4 (Ev.bind s5 (Ev.bind s6 (Ev.pos rfl (Ev.pos rfl (Ev.pos rfl (Ev.pos rfl (Ev.pos rfl (Ev.pos rfl (Ev.neg (by simp) (Ev.now _))))))))))))))), (Ev.bind g0 (Ev.bind g1 (Ev.bind g2 (Ev.bind g3 (Ev.bind g4 (Ev.bind g5 (Ev.bind g6 (Ev.pos rfl (Ev.now _))))))))), by simp, fun h => (by cases h), fun _ k' f' t' d' s' n' l' hm hk hx => ?_⟩
        obtain ⟨c1, c2, c3, c4, c5, c6, c7⟩ := msgOk_parts hk
        have d0 : b.drop 0 = num k' ++ (num f' ++ (num t' ++ (num d' ++ (textB s' ++ (num n' ++ textsB l'))))) := hm
        have d1 := (num_inj _ _ _ _ (y0.symm.trans d0)).2
        have d2 := (num_inj _ _ _ _ (y1.symm.trans d1)).2
        have d3 := (num_inj _ _ _ _ (y2.symm.trans d2)).2
        have d4 := (num_inj _ _ _ _ (y3.symm.trans d3)).2
        have d5 := (textB_inj (y4.symm.trans d4)).2
        have d6 := (num_inj _ _ _ _ (y5.symm.trans d5)).2
        exact z6 l' [] (by rw [List.append_nil]; exact d6) c7 hx
       ·skip
        have hb0 : b = msgB v0 v1 v2 v3 v4 v5 v6 ++ b.drop p7 := by
         have e : b.drop 0 = num v0 ++ (num v1 ++ (num v2 ++ (num v3 ++ (textB v4 ++ (num v5 ++ (textsB v6 ++ b.drop p7)))))) := by rw [y0, y1, y2, y3, y4, y5, y6]
         unfold msgB
         simp only [List.append_assoc]
         exact e
        have htt : total v6 ≤ 1000000000 := by
         have := manyB_ge v6
         have h2 := congrArg List.length hb0
         unfold msgB textsB at h2
         simp only [List.length_append] at h2
         omega
        have hinj : ∀ (k' f' t' d' : Nat) (s' : ByteArray) (n' : Nat) (l' : List ByteArray), b = msgB k' f' t' d' s' n' l' → v0 = k' ∧ v1 = f' ∧ v2 = t' ∧ v3 = d' ∧ v4 = s' ∧ v5 = n' ∧ v6 = l' ∧ b.drop p7 = [] := fun k' f' t' d' s' n' l' hm => by
         have d0 : b.drop 0 = num k' ++ (num f' ++ (num t' ++ (num d' ++ (textB s' ++ (num n' ++ textsB l'))))) := hm
         have e0 := num_inj _ _ _ _ (y0.symm.trans d0)
         have d1 := e0.2
         have e1 := num_inj _ _ _ _ (y1.symm.trans d1)
         have d2 := e1.2
         have e2 := num_inj _ _ _ _ (y2.symm.trans d2)
         have d3 := e2.2
         have e3 := num_inj _ _ _ _ (y3.symm.trans d3)
         have d4 := e3.2
         have e4 := textB_inj (y4.symm.trans d4)
         have d5 := e4.2
         have e5 := num_inj _ _ _ _ (y5.symm.trans d5)
         have d6 := e5.2
         have e6 := textsB_inj (r := b.drop p7) (s := []) (by rw [List.append_nil]; exact y6.symm.trans d6)
         exact ⟨e0.1, e1.1, e2.1, e3.1, e4.1, e5.1, e6.1, e6.2⟩
        by_cases hk : msgOk v0 v1 v2 v3 v4 v5 v6 = true
        ·by_cases hp : (p7 : Int) = (b.length : Int)
         ·have hd : b.drop p7 = [] := List.drop_eq_nil_of_le (by omega)
          rw [hd, List.append_nil] at hb0
          have hE : bytes_Equal.f (msgB v0 v1 v2 v3 v4 v5 v6) b = some true := by
           unfold bytes_Equal.f
           rw [nums_eq (msgB_inB _ _ _ _ _ _ _) hb, decide_eq_true hb0.symm]
          exact ⟨v0, v1, v2, v3, v4, v5, v6, true, (Ev.bind s0 (Ev.bind s1 (Ev.bind s2 (Ev.bind s3 (Ev.bind s4 (Ev.bind s5 (Ev.bind s6 (Ev.pos rfl (Ev.pos rfl (Ev.pos rfl (Ev.pos rfl (Ev.pos rfl (Ev.pos rfl (Ev.pos rfl (Ev.pos hp (Ev.bind (spec_MsgOk_ev _ _ _ _ _ _ _) (Ev.pos hk (Ev.now _)))))))))))))))))), (Ev.bind g0 (Ev.bind g1 (Ev.bind g2 (Ev.bind g3 (Ev.bind g4 (Ev.bind g5 (Ev.bind g6 (Ev.neg (by simp) (Ev.bind (impl_MsgOk_ev _ _ _ _ _ _ _) (Ev.pos hk (Ev.bind (implPut_val v0 v1 v2 v3 v4 v5 v6 hk htt hs6) (Ev.bind (Ev.const hE) (Ev.pos rfl (Ev.now _)))))))))))))), h6, fun _ => ⟨v0, v1, v2, v3, v5, rfl, rfl, rfl, rfl, rfl, hk, hb0, htt, hs6⟩, fun h => (by cases h)⟩
         ·have hne : ¬ msgB v0 v1 v2 v3 v4 v5 v6 = b := fun e => by
           obtain ⟨_, _, _, _, _, _, _, h⟩ := hinj _ _ _ _ _ _ _ e.symm
           have := congrArg List.length h
           rw [List.length_drop] at this
           simp only [List.length_nil] at this
           omega
          have hE : bytes_Equal.f (msgB v0 v1 v2 v3 v4 v5 v6) b = some false := by
           unfold bytes_Equal.f
           rw [nums_eq (msgB_inB _ _ _ _ _ _ _) hb, decide_eq_false hne]
          refine ⟨0, 0, 0, 0, ⟨#[]⟩, 0, [], false, (Ev.bind s0 (Ev.bind s1 (Ev.bind s2 (Ev.bind s3 (Ev.bind s4 (Ev.bind s5 (Ev.bind s6 (Ev.pos rfl (Ev.pos rfl (Ev.pos rfl (Ev.pos rfl (Ev.pos rfl (Ev.pos rfl (Ev.pos rfl (Ev.neg hp (Ev.now _)))))))))))))))), (Ev.bind g0 (Ev.bind g1 (Ev.bind g2 (Ev.bind g3 (Ev.bind g4 (Ev.bind g5 (Ev.bind g6 (Ev.neg (by simp) (Ev.bind (impl_MsgOk_ev _ _ _ _ _ _ _) (Ev.pos hk (Ev.bind (implPut_val v0 v1 v2 v3 v4 v5 v6 hk htt hs6) (Ev.bind (Ev.const hE) (Ev.neg (by simp) (Ev.now _)))))))))))))), by simp, fun h => (by cases h), fun _ k' f' t' d' s' n' l' hm hk2 hx => ?_⟩
          obtain ⟨rfl, rfl, rfl, rfl, rfl, rfl, rfl, _⟩ := hinj _ _ _ _ _ _ _ hm
          exact hne hm.symm
        ·refine ⟨0, 0, 0, 0, ⟨#[]⟩, 0, [], false, ?_, (Ev.bind g0 (Ev.bind g1 (Ev.bind g2 (Ev.bind g3 (Ev.bind g4 (Ev.bind g5 (Ev.bind g6 (Ev.neg (by simp) (Ev.bind (impl_MsgOk_ev _ _ _ _ _ _ _) (Ev.neg hk (Ev.now _))))))))))), by simp, fun h => (by cases h), fun _ k' f' t' d' s' n' l' hm hk2 hx => ?_⟩
         ·by_cases hp : (p7 : Int) = (b.length : Int)
          ·exact (Ev.bind s0 (Ev.bind s1 (Ev.bind s2 (Ev.bind s3 (Ev.bind s4 (Ev.bind s5 (Ev.bind s6 (Ev.pos rfl (Ev.pos rfl (Ev.pos rfl (Ev.pos rfl (Ev.pos rfl (Ev.pos rfl (Ev.pos rfl (Ev.pos hp (Ev.bind (spec_MsgOk_ev _ _ _ _ _ _ _) (Ev.neg hk (Ev.now _))))))))))))))))))
          ·exact (Ev.bind s0 (Ev.bind s1 (Ev.bind s2 (Ev.bind s3 (Ev.bind s4 (Ev.bind s5 (Ev.bind s6 (Ev.pos rfl (Ev.pos rfl (Ev.pos rfl (Ev.pos rfl (Ev.pos rfl (Ev.pos rfl (Ev.pos rfl (Ev.neg hp (Ev.now _))))))))))))))))
         ·obtain ⟨rfl, rfl, rfl, rfl, rfl, rfl, rfl, _⟩ := hinj _ _ _ _ _ _ _ hm
          exact hk hk2
end Go.Proofs.Ytcogimnpffnanaa.Q
end

section
-- Written by a program of this session (wip/tools/pp.sh) over the print of the kit.
namespace Go.Proofs.Ytcogimnpffnanaa.Q
open Go.RowKit Go.Proofs.YtcogimnpffnanaaW.PrintWords Go.Proofs.YtcogimnpffnanaaW.PrintLast Go.Proofs.YtcogimnpffnanaaW.PrintMore
attribute [local go_sem] max2_int min2_int max_two min_two max_three min_three max_four min_four   -- for this text's walks alone
set_option linter.unusedVariables false
set_option linter.unusedSimpArgs false

/-! ### laws_heldMsg: function 29 -/
def laws_heldMsg.f (k : Nat) (a0_0 : Int) (a0_1 : Int) (a0_2 : Int) (a0_3 : Int) (a0_4 : ByteArray) (a0_5 : Int) (l0_6 : List ByteArray) (a1 : Int) : Option (Int) := (laws_heldStringS.f k l0_6 a1).bind fun t602 => (if t602 < 0 then (some (-1)) else (some t602))
theorem laws_heldMsg.mono : ∀ a0 a1 a2 a3 a4 a5 a6 a7 k, LeO (laws_heldMsg.f k a0 a1 a2 a3 a4 a5 a6 a7) (laws_heldMsg.f (k + 1) a0 a1 a2 a3 a4 a5 a6 a7) := by
 intro a0 a1 a2 a3 a4 a5 a6 a7 k
 unfold laws_heldMsg.f
 repeat' first
   | (with_reducible exact laws_heldStringS.mono _ _ _)
   | (with_reducible exact LeO.refl _)
   | (with_reducible exact LeO.none _)
   | (with_reducible refine LeO.ite ?_ ?_)
   | (with_reducible refine LeO.bind ?_ (fun _ => ?_))
   | exact laws_heldStringS.mono _ _ _
   | exact LeO.none _
   | refine LeO.ite ?_ ?_
   | refine LeO.bind ?_ (fun _ => ?_)
set_option maxHeartbeats 8000000 in
set_option maxRecDepth 100000 in
theorem laws_heldMsg.calls (k : Nat) (a0_0 : Int) (a0_1 : Int) (a0_2 : Int) (a0_3 : Int) (a0_4 : ByteArray) (a0_5 : Int) (A0_6 : Option Addr) (c0_6 : Nat) (l0_6 : List ByteArray) (a1 : Int) (r : Int) (w : World) (hr0_6 : Kd.C Kd.string w A0_6 l0_6.length l0_6) (hc0_6 : l0_6.length ≤ c0_6) (h : laws_heldMsg.f k a0_0 a0_1 a0_2 a0_3 a0_4 a0_5 l0_6 a1 = some r) :
  Calls Try.prog 29 #[.agg #[.int .i64 a0_0, .int .i64 a0_1, .int .i64 a0_2, .int .i64 a0_3, .string a0_4, .int .i64 a0_5, .slice A0_6 l0_6.length c0_6], .int .i64 a1] w fun e w' => e = .returned (.int .i64 r) ∧ Below w.heap.size w w' := by
 have hu33 := Try.underlying33
 have HR0_6 := Aside0.mk hr0_6
 have HC0_6 := Aside0.mk hc0_6
 clear hr0_6 hc0_6
 have HB := Aside0.mk (Below.refl w.heap.size w)
 have H : ((laws_heldStringS.f k l0_6 a1).bind fun t602 => (if t602 < 0 then (some (-1)) else (some t602))) = some r := h
 clear h
 replace H := Option.bind_eq_some_iff.mp H
 obtain ⟨t602, A30, H⟩ := H
 replace H : (if t602 < 0 then (some (-1)) else (some t602)) = some r := H
 have A3 := Aside0.mk A30
 clear A30
 by_cases c4 : t602 < 0
 ·rw [if_pos c4] at H
  have c4b0 : decide (t602 < 0) = true := decide_eq_true c4
  clear c4
  obtain rfl := Option.some.inj H
  go_enter Try.func29, Try.ntmps29
  go_wp2_with (first | ((with_reducible refine gate_dst (N := 2) rfl ?_); refine box_event ?hg (N := 2) ?hd (cs := #[.int .i64 a0_0, .int .i64 a0_1, .int .i64 a0_2, .int .i64 a0_3, .string a0_4, .int .i64 a0_5, .slice A0_6 l0_6.length c0_6]) (t := 33) ?hr ?_; (case hd => rfl); (case hg => rfl); (case hr => first | (go_simp; done) | (go_simp; rfl)); intro gb601 hg w5 hbox hb; have n0_ := Aside0.mk (below_step (by repeat (first | (with_reducible first | exact HB.out | apply below_alloc | apply pw_below_drewN | apply below_drew1) | exact HB.out)) hb); have n1_ := Aside0.mk (hbox); have n2_ := Aside0.mk ((by rw [hg]; exact (below_size (by repeat (first | (with_reducible first | exact HB.out | apply below_alloc | apply pw_below_drewN | apply below_drew1) | exact HB.out))) : w.heap.size ≤ gb601)); have n3_ := Aside0.mk ((by rw [hg]; exact (below_size (by repeat (first | (with_reducible first | exact HB.out | apply below_alloc | apply pw_below_drewN | apply below_drew1) | exact HB.out))) : w.heap.size ≤ gb601)); clear HB; have HB := n0_; have BK601 := n1_; have GW601 := n2_; have GE601 := n3_; clear n0_ n1_ n2_ n3_; clear hb hbox hg; have hcz6_0 : w5.cell? ⟨gb601, 0, none⟩ = some (.int .i64 a0_0) := (blk_cell BK601.out 0).trans rfl; have hcz6_1 : w5.cell? ⟨gb601, 1, none⟩ = some (.int .i64 a0_1) := (blk_cell BK601.out 1).trans rfl; have hcz6_2 : w5.cell? ⟨gb601, 2, none⟩ = some (.int .i64 a0_2) := (blk_cell BK601.out 2).trans rfl; have hcz6_3 : w5.cell? ⟨gb601, 3, none⟩ = some (.int .i64 a0_3) := (blk_cell BK601.out 3).trans rfl; have hcz6_4 : w5.cell? ⟨gb601, 4, none⟩ = some (.string a0_4) := (blk_cell BK601.out 4).trans rfl; have hcz6_5 : w5.cell? ⟨gb601, 5, none⟩ = some (.int .i64 a0_5) := (blk_cell BK601.out 5).trans rfl; have hcz6_6 : w5.cell? ⟨gb601, 6, none⟩ = some (.slice A0_6 l0_6.length c0_6) := (blk_cell BK601.out 6).trans rfl; have hfz6_0 := blk_frozen BK601.out 0; have hfz6_1 := blk_frozen BK601.out 1; have hfz6_2 := blk_frozen BK601.out 2; have hfz6_3 := blk_frozen BK601.out 3; have hfz6_4 := blk_frozen BK601.out 4; have hfz6_5 := blk_frozen BK601.out 5; have hfz6_6 := blk_frozen BK601.out 6) | ((with_reducible refine gate_callee (f := 54) rfl ?_); refine goesL_ (some 8) rfl rfl Try.func54 (by kernel_rfl) rfl #[.slice A0_6 l0_6.length c0_6, .int .i64 a1] rfl (by (try simp only [List.map_toArray, List.map_cons, List.map_nil]); first | done | rfl | (simp only [List.length_drop, List.length_take]; rfl)) ?_; (with_reducible refine (laws_heldStringS.calls k _ _ l0_6 a1 t602 _ ?side1 ?side2 A3.out).mono ?_); (case side1 => repeat (first | exact (Kd.C_below HR0_6.out HB.out) | (with_reducible refine Kd.C_alloc ?_ _) | (with_reducible refine Kd.C_drewN ?_ _) | (with_reducible refine Kd.C_drew ?_))); (case side2 => exact HC0_6.out); rintro e w7 ⟨rfl, hb⟩; refine ⟨_, rfl, ?_⟩; have n0_ := Aside0.mk (blk_below (g := gb601) (o := .cells #[.int .i64 a0_0, .int .i64 a0_1, .int .i64 a0_2, .int .i64 a0_3, .string a0_4, .int .i64 a0_5, .slice A0_6 l0_6.length c0_6] 33 (0, 0)) (by (with_reducible repeat (first | refine blk_drewN ?_ _ | refine blk_drew ?_ | refine blk_alloc ?_ _)); exact BK601.out) hb); have n1_ := Aside0.mk (below_step (by repeat (first | (with_reducible first | exact HB.out | apply below_alloc | apply pw_below_drewN | apply below_drew1 | refine below_set ?_ GE601.out) | exact HB.out)) hb); clear BK601; clear HB; have BK601 := n0_; have HB := n1_; clear n0_ n1_; (try clear hb); (try clear hb2); (try clear hk); (try clear hi)))
  go_ret
  exact ⟨by first | rfl | (simp [errW_none, errW_some] <;> rfl) | (simp [*, errW_none, errW_some] <;> rfl), by repeat (first | (with_reducible first | exact HB.out | apply below_alloc | apply pw_below_drewN | apply below_drew1 | refine below_set ?_ GE601.out) | exact HB.out)⟩
 ·rw [if_neg c4] at H
  have c4b0 : decide (t602 < 0) = false := decide_eq_false c4
  clear c4
  obtain rfl := Option.some.inj H
  go_enter Try.func29, Try.ntmps29
  go_wp2_with (first | ((with_reducible refine gate_dst (N := 2) rfl ?_); refine box_event ?hg (N := 2) ?hd (cs := #[.int .i64 a0_0, .int .i64 a0_1, .int .i64 a0_2, .int .i64 a0_3, .string a0_4, .int .i64 a0_5, .slice A0_6 l0_6.length c0_6]) (t := 33) ?hr ?_; (case hd => rfl); (case hg => rfl); (case hr => first | (go_simp; done) | (go_simp; rfl)); intro gb601 hg w8 hbox hb; have n0_ := Aside0.mk (below_step (by repeat (first | (with_reducible first | exact HB.out | apply below_alloc | apply pw_below_drewN | apply below_drew1) | exact HB.out)) hb); have n1_ := Aside0.mk (hbox); have n2_ := Aside0.mk ((by rw [hg]; exact (below_size (by repeat (first | (with_reducible first | exact HB.out | apply below_alloc | apply pw_below_drewN | apply below_drew1) | exact HB.out))) : w.heap.size ≤ gb601)); have n3_ := Aside0.mk ((by rw [hg]; exact (below_size (by repeat (first | (with_reducible first | exact HB.out | apply below_alloc | apply pw_below_drewN | apply below_drew1) | exact HB.out))) : w.heap.size ≤ gb601)); clear HB; have HB := n0_; have BK601 := n1_; have GW601 := n2_; have GE601 := n3_; clear n0_ n1_ n2_ n3_; clear hb hbox hg; have hcz9_0 : w8.cell? ⟨gb601, 0, none⟩ = some (.int .i64 a0_0) := (blk_cell BK601.out 0).trans rfl; have hcz9_1 : w8.cell? ⟨gb601, 1, none⟩ = some (.int .i64 a0_1) := (blk_cell BK601.out 1).trans rfl; have hcz9_2 : w8.cell? ⟨gb601, 2, none⟩ = some (.int .i64 a0_2) := (blk_cell BK601.out 2).trans rfl; have hcz9_3 : w8.cell? ⟨gb601, 3, none⟩ = some (.int .i64 a0_3) := (blk_cell BK601.out 3).trans rfl; have hcz9_4 : w8.cell? ⟨gb601, 4, none⟩ = some (.string a0_4) := (blk_cell BK601.out 4).trans rfl; have hcz9_5 : w8.cell? ⟨gb601, 5, none⟩ = some (.int .i64 a0_5) := (blk_cell BK601.out 5).trans rfl; have hcz9_6 : w8.cell? ⟨gb601, 6, none⟩ = some (.slice A0_6 l0_6.length c0_6) := (blk_cell BK601.out 6).trans rfl; have hfz9_0 := blk_frozen BK601.out 0; have hfz9_1 := blk_frozen BK601.out 1; have hfz9_2 := blk_frozen BK601.out 2; have hfz9_3 := blk_frozen BK601.out 3; have hfz9_4 := blk_frozen BK601.out 4; have hfz9_5 := blk_frozen BK601.out 5; have hfz9_6 := blk_frozen BK601.out 6) | ((with_reducible refine gate_callee (f := 54) rfl ?_); refine goesL_ (some 8) rfl rfl Try.func54 (by kernel_rfl) rfl #[.slice A0_6 l0_6.length c0_6, .int .i64 a1] rfl (by (try simp only [List.map_toArray, List.map_cons, List.map_nil]); first | done | rfl | (simp only [List.length_drop, List.length_take]; rfl)) ?_; (with_reducible refine (laws_heldStringS.calls k _ _ l0_6 a1 t602 _ ?side1 ?side2 A3.out).mono ?_); (case side1 => repeat (first | exact (Kd.C_below HR0_6.out HB.out) | (with_reducible refine Kd.C_alloc ?_ _) | (with_reducible refine Kd.C_drewN ?_ _) | (with_reducible refine Kd.C_drew ?_))); (case side2 => exact HC0_6.out); rintro e w10 ⟨rfl, hb⟩; refine ⟨_, rfl, ?_⟩; have n0_ := Aside0.mk (blk_below (g := gb601) (o := .cells #[.int .i64 a0_0, .int .i64 a0_1, .int .i64 a0_2, .int .i64 a0_3, .string a0_4, .int .i64 a0_5, .slice A0_6 l0_6.length c0_6] 33 (0, 0)) (by (with_reducible repeat (first | refine blk_drewN ?_ _ | refine blk_drew ?_ | refine blk_alloc ?_ _)); exact BK601.out) hb); have n1_ := Aside0.mk (below_step (by repeat (first | (with_reducible first | exact HB.out | apply below_alloc | apply pw_below_drewN | apply below_drew1 | refine below_set ?_ GE601.out) | exact HB.out)) hb); clear BK601; clear HB; have BK601 := n0_; have HB := n1_; clear n0_ n1_; (try clear hb); (try clear hb2); (try clear hk); (try clear hi)))
  go_ret
  exact ⟨by first | rfl | (simp [errW_none, errW_some] <;> rfl) | (simp [*, errW_none, errW_some] <;> rfl), by repeat (first | (with_reducible first | exact HB.out | apply below_alloc | apply pw_below_drewN | apply below_drew1 | refine below_set ?_ GE601.out) | exact HB.out)⟩

end Go.Proofs.Ytcogimnpffnanaa.Q
end

section
/- Arguments that were read as data, opened as Lean values: numbers, bools, strings, slices of whatever kind; structs by their fields. For the rows of this seat's laws. -/
namespace Go.Proofs.Ytcogimnpffnanaa.XO
open Go.RowKit Go.Proofs.YtcogimnpffnanaaW.PrintWords Go.ChangeShapes Go.WideShapes

/-- What reads as data of type t is a Lean value of kind d, and good. -/
def Opens {α : Type} (P : Program) (d : Kd α) (t : TypeId) (G : α → Prop) : Prop :=
 ∀ {H : Type} {enc : TypeId × Value → H} {w : World} {base : Nat} {spare : Nat → Bool} {held : Bool} {fuel : Nat} {cs : List Value} {x : DataW H × List MemPlace},
  DataW.trod enc P w base spare held fuel t cs = some x → ∃ a : α, d.K w a cs ∧ G a

variable {P : Program} {t : TypeId}

theorem add_add (a : Addr) (x i : Nat) : (a.add x).add i = a.add (x + i) := by
 unfold Addr.add
 by_cases hx : x = 0
 ·subst hx
  simp
 ·by_cases hi : i = 0
  ·subst hi
   simp
  ·simp [hx, hi, Nat.add_assoc]
theorem cells_read {w : World} {base : Nat} {a : Addr} {x n : Nat} {cs : List Value} (h : w.cells? base (a.add x) n = some cs) (i : Nat) (u : Value) (hu : cs[i]? = some u) : w.cell? (a.add (x + i)) = some u := by
 unfold World.cells? at h
 split at h
 ·have hl : cs.length = n := by simpa using mapM_some_length h
  have hi : i < n := by
   rw [← hl]
   exact (List.getElem?_eq_some_iff.1 hu).1
  have hg := mapM_some_get h i i (by simp [hi])
  rw [hu, add_add] at hg
  exact hg
 ·exact absurd h (by simp)

theorem family {α : Type} {p : Nat → α → Prop} (n : Nat) (h : ∀ i, i < n → ∃ x, p i x) : ∃ xs : List α, xs.length = n ∧ ∀ i x, xs[i]? = some x → p i x := by
 induction n with
 | zero => exact ⟨[], rfl, fun i x hx => by simp at hx⟩
 | succ n ih =>
  obtain ⟨xs, h1, h2⟩ := ih (fun i hi => h i (by omega))
  obtain ⟨y, hy⟩ := h n (by omega)
  refine ⟨xs ++ [y], by simp [h1], fun i x hx => ?_⟩
  by_cases hi : i < xs.length
  ·rw [List.getElem?_append_left hi] at hx
   exact h2 i x hx
  ·rw [List.getElem?_append_right (by omega)] at hx
   have hz : i - xs.length = 0 := by
    rcases Nat.eq_zero_or_pos (i - xs.length) with hz | hz
    ·exact hz
    ·rw [List.getElem?_eq_none (by simp; omega)] at hx
     exact absurd hx (by simp)
   rw [hz] at hx
   have hxy : y = x := by simpa using hx
   have hin : i = n := by omega
   rw [← hxy, hin]
   exact hy

theorem opens_int {k : IntKind} (ht : P.underlying t = some (.int k)) : Opens P (Kd.int k) t (fun n => (Lit.int k n).wf = true) := by
 intro H enc w base spare held fuel cs x h
 obtain ⟨n, rfl, _, hw⟩ := DataW.trod_int ht h
 exact ⟨n, rfl, hw⟩

theorem opens_slice {α : Type} {d : Kd α} {G : α → Prop} {e : TypeId} (ht : P.underlying t = some (.slice e)) (hc : P.cellsOf e = d.sz) (h0 : Opens P d e G) :
  Opens P (Kd.slice e d) t (fun l => l.length ≤ 9223372036854775807 ∧ ∀ x ∈ l, G x) := by
 intro H enc w base spare held fuel cs x h
 rcases Go.Deep.open_slice ht h with ⟨rfl, _⟩ | ⟨a, len, cap, m, n, D, Pl, rfl, _, hl, hm, hmm, _, hel⟩
 ·exact ⟨[], ⟨none, 0, rfl, Nat.le_refl _, rfl, by simp, fun hp => absurd hp (by simp)⟩, by simp, fun x hx => absurd hx (by simp)⟩
 ·have hlm : len ≤ m := by
   rw [hmm]
   split
   ·exact hl
   ·exact Nat.le_refl _
  have hall : ∀ i, i < len → ∃ x : α, (∃ cs', w.cells? base (a.add (i * P.cellsOf e)) (P.cellsOf e) = some cs' ∧ d.K w x cs') ∧ G x := by
   intro i hi
   obtain ⟨cs', h1, h2⟩ := hel i (by omega)
   obtain ⟨x, hk, hg⟩ := h0 h2
   exact ⟨x, ⟨cs', h1, hk⟩, hg⟩
  have hlen : len ≤ 9223372036854775807 := by simp only [maxLen] at hm; omega
  obtain ⟨xs, h1, h2⟩ := family len hall
  refine ⟨xs, ⟨some a, cap, by rw [h1], by omega, rfl, by omega, fun _ => ⟨a, rfl, fun j p hj => ?_⟩⟩, by omega, fun x hx => ?_⟩
  ·obtain ⟨⟨cs', hc1, hk⟩, _⟩ := h2 j p hj
   refine ⟨cs', d.K_len hk, hk, fun i u hu => ?_⟩
   rw [hc] at hc1
   exact cells_read hc1 i u hu
  ·obtain ⟨i, hi⟩ := List.getElem?_of_mem hx
   exact (h2 i x hi).2

end Go.Proofs.Ytcogimnpffnanaa.XO
end

section
/- Which Lean values the laws' arguments are opened to: each struct type by its fields. -/
namespace Go.Proofs.Ytcogimnpffnanaa.Q
open Go.RowKit Go.Proofs.Ytcogimnpffnanaa.XO Go.Proofs.YtcogimnpffnanaaW.PrintWords Go.ChangeShapes Go.WideShapes
set_option linter.unusedVariables false
set_option linter.unusedSimpArgs false
end Go.Proofs.Ytcogimnpffnanaa.Q
end

section
-- Written by a program of this session (wip/tools/pp.sh) over the print of the kit.
namespace Go.Proofs.Ytcogimnpffnanaa.Q
open Go.RowKit Go.Proofs.YtcogimnpffnanaaW.PrintWords Go.Proofs.YtcogimnpffnanaaW.PrintLast Go.Proofs.YtcogimnpffnanaaW.PrintMore
attribute [local go_sem] max2_int min2_int max_two min_two max_three min_three max_four min_four   -- for this text's walks alone
set_option linter.unusedVariables false
set_option linter.unusedSimpArgs false

/-! ### laws_markMsg: function 23 -/
def laws_markMsg.f (k : Nat) (a0_0 : Int) (a0_1 : Int) (a0_2 : Int) (a0_3 : Int) (a0_4 : ByteArray) (a0_5 : Int) (l0_6 : List ByteArray) (a1 : Int) : Option (Int × List ByteArray) := (laws_markStringS.f k l0_6 a1).bind fun bt602 => (some (bt602.1, bt602.2))
theorem laws_markMsg.mono : ∀ a0 a1 a2 a3 a4 a5 a6 a7 k, LeO (laws_markMsg.f k a0 a1 a2 a3 a4 a5 a6 a7) (laws_markMsg.f (k + 1) a0 a1 a2 a3 a4 a5 a6 a7) := by
 intro a0 a1 a2 a3 a4 a5 a6 a7 k
 unfold laws_markMsg.f
 repeat' first
   | (with_reducible exact laws_markStringS.mono _ _ _)
   | (with_reducible exact LeO.refl _)
   | (with_reducible exact LeO.none _)
   | (with_reducible refine LeO.ite ?_ ?_)
   | (with_reducible refine LeO.bind ?_ (fun _ => ?_))
   | exact laws_markStringS.mono _ _ _
   | exact LeO.none _
   | refine LeO.ite ?_ ?_
   | refine LeO.bind ?_ (fun _ => ?_)
set_option maxHeartbeats 8000000 in
set_option maxRecDepth 100000 in
theorem laws_markMsg.calls (k : Nat) (a0_0 : Int) (a0_1 : Int) (a0_2 : Int) (a0_3 : Int) (a0_4 : ByteArray) (a0_5 : Int) (P0_6_ : Nat → Prop) (u9000_ : Value) (l0_6 : List ByteArray) (a1 : Int) (r1 : Int) (r2 : List ByteArray) (w0 w : World) (hB : Below w0.heap.size w0 w) (ho0_6 : Kd.R Kd.string 9 w w0.heap.size P0_6_ u9000_ l0_6) (h : laws_markMsg.f k a0_0 a0_1 a0_2 a0_3 a0_4 a0_5 l0_6 a1 = some (r1, r2)) :
  Calls Try.prog 23 #[.agg #[.int .i64 a0_0, .int .i64 a0_1, .int .i64 a0_2, .int .i64 a0_3, .string a0_4, .int .i64 a0_5, u9000_], .int .i64 a1] w fun e w' => e = .returned (.int .i64 r1) ∧ Kd.R Kd.string 9 w' w0.heap.size (fun k_ => (P0_6_ k_ ∨ w.heap.size ≤ k_)) u9000_ r2 ∧ Below w0.heap.size w0 w' ∧ Kept w w' (fun k_ => P0_6_ k_) := by
 have hu33 := Try.underlying33
 have HO0_6 := Aside0.mk (show Kd.R Kd.string 9 w w0.heap.size (fun k_ => (P0_6_ k_ ∨ w.heap.size ≤ k_)) u9000_ l0_6 from Kd.R_mono ho0_6 (fun k_ hk => (.inl hk)))
 have HK := Aside0.mk (Kept.refl w (fun k_ => P0_6_ k_))
 have HW0 := Aside0.mk hB.size
 have HB := Aside0.mk hB
 clear hB
 have H : ((laws_markStringS.f k l0_6 a1).bind fun bt602 => (some (bt602.1, bt602.2))) = some (r1, r2) := h
 clear h
 replace H := Option.bind_eq_some_iff.mp H
 obtain ⟨⟨t602, t603⟩, A30, H⟩ := H
 replace H : (some (t602, t603)) = some (r1, r2) := H
 have A3 := Aside0.mk A30
 clear A30
 simp only [Option.some.injEq, Prod.mk.injEq] at H
 obtain ⟨rfl, rfl⟩ := H
 obtain ⟨Ao4, co4, eo4⟩ := Kd.R_slice HO0_6.out
 subst eo4
 go_enter Try.func23, Try.ntmps23
 go_wp2_with (first | ((with_reducible refine gate_dst (N := 2) rfl ?_); refine box_event ?hg (N := 2) ?hd (cs := #[.int .i64 a0_0, .int .i64 a0_1, .int .i64 a0_2, .int .i64 a0_3, .string a0_4, .int .i64 a0_5, .slice Ao4 l0_6.length co4]) (t := 33) ?hr ?_; (case hd => rfl); (case hg => rfl); (case hr => first | (go_simp; done) | (go_simp; rfl)); intro gb601 hg w5 hbox hb; have n0_ := Aside0.mk (Kd.R_below (by (with_reducible repeat (first | apply Kd.R_alloc | apply Kd.R_drewN | apply Kd.R_drew)); exact HO0_6.out) hb); have n1_ := Aside0.mk (Kept.below (S := (fun k_ => P0_6_ k_)) (by repeat (first | (with_reducible first | exact HK.out | apply Kept.alloc | apply Kept.drewN | apply Kept.drew) | exact HK.out)) hb); have n2_ := Aside0.mk (below_step (by repeat (first | (with_reducible first | exact HB.out | apply below_alloc | apply pw_below_drewN | apply below_drew1) | exact HB.out)) hb); have n3_ := Aside0.mk (hbox); have n4_ := Aside0.mk ((by rw [hg]; exact (by first | exact HK.out.1 | exact (show Kept w _ (fun k_ => P0_6_ k_) from by repeat (first | (with_reducible first | exact HK.out | apply Kept.alloc | apply Kept.drewN | apply Kept.drew) | exact HK.out)).1) : w.heap.size ≤ gb601)); have n5_ := Aside0.mk ((by rw [hg]; exact (below_size (by repeat (first | (with_reducible first | exact HB.out | apply below_alloc | apply pw_below_drewN | apply below_drew1) | exact HB.out))) : w0.heap.size ≤ gb601)); clear HO0_6; clear HK; clear HB; have HO0_6 := n0_; have HK := n1_; have HB := n2_; have BK601 := n3_; have GW601 := n4_; have GE601 := n5_; clear n0_ n1_ n2_ n3_ n4_ n5_; clear hb hbox hg; have hcz6_0 : w5.cell? ⟨gb601, 0, none⟩ = some (.int .i64 a0_0) := (blk_cell BK601.out 0).trans rfl; have hcz6_1 : w5.cell? ⟨gb601, 1, none⟩ = some (.int .i64 a0_1) := (blk_cell BK601.out 1).trans rfl; have hcz6_2 : w5.cell? ⟨gb601, 2, none⟩ = some (.int .i64 a0_2) := (blk_cell BK601.out 2).trans rfl; have hcz6_3 : w5.cell? ⟨gb601, 3, none⟩ = some (.int .i64 a0_3) := (blk_cell BK601.out 3).trans rfl; have hcz6_4 : w5.cell? ⟨gb601, 4, none⟩ = some (.string a0_4) := (blk_cell BK601.out 4).trans rfl; have hcz6_5 : w5.cell? ⟨gb601, 5, none⟩ = some (.int .i64 a0_5) := (blk_cell BK601.out 5).trans rfl; have hcz6_6 : w5.cell? ⟨gb601, 6, none⟩ = some (.slice Ao4 l0_6.length co4) := (blk_cell BK601.out 6).trans rfl; have hfz6_0 := blk_frozen BK601.out 0; have hfz6_1 := blk_frozen BK601.out 1; have hfz6_2 := blk_frozen BK601.out 2; have hfz6_3 := blk_frozen BK601.out 3; have hfz6_4 := blk_frozen BK601.out 4; have hfz6_5 := blk_frozen BK601.out 5; have hfz6_6 := blk_frozen BK601.out 6) | ((with_reducible refine gate_callee (f := 50) rfl ?_); refine goesL_ (some 8) rfl rfl Try.func50 (by kernel_rfl) rfl #[.slice Ao4 l0_6.length co4, .int .i64 a1] rfl (by (try simp only [List.map_toArray, List.map_cons, List.map_nil]); first | done | rfl | (simp only [List.length_drop, List.length_take]; rfl)) ?_; (with_reducible refine (laws_markStringS.calls k (fun k_ => some k_ = (.slice Ao4 l0_6.length co4 : Value).ownBlock) (.slice Ao4 l0_6.length co4) l0_6 a1 t602 t603 w0 _ ?side1 ?side2 A3.out).mono ?_); (case side1 => repeat (first | (with_reducible first | exact HB.out | apply below_alloc | apply pw_below_drewN | apply below_drew1 | refine below_set ?_ GE601.out) | exact HB.out)); (case side2 => exact Kd.R_tight rfl HO0_6.out); rintro e w7 ⟨rfl, hy0, hb, hkp⟩; refine ⟨_, rfl, ?_⟩; have n0_ := Aside0.mk (Kd.R_reok rfl hy0 (fun k_ e_ => HO0_6.out.1 k_ e_)); have n1_ := Aside0.mk (blk_kept (by (with_reducible repeat (first | refine blk_drewN ?_ _ | refine blk_drew ?_ | refine blk_alloc ?_ _)); exact BK601.out) hkp (fun hs_ => (fun e_ => (Kd.R_ne HO0_6.out BK601.out (by decide)) e_) hs_)); have n2_ := Aside0.mk (Kept.then_ (S := (fun k_ => P0_6_ k_)) (by repeat (first | (with_reducible first | exact HK.out | apply Kept.alloc | apply Kept.drewN | apply Kept.drew | refine Kept.setCell ?_ (.inr GW601.out) _) | exact HK.out)) hkp (fun k_ hs_ => (fun e_ => (HO0_6.out.1 k_ e_.symm)) hs_)); have n3_ := Aside0.mk (hb); clear HO0_6; clear BK601; clear HK; clear HB; have HO0_6 := n0_; have BK601 := n1_; have HK := n2_; have HB := n3_; clear n0_ n1_ n2_ n3_; (try clear hb); (try clear hkp); (try clear hy0)))
 go_ret
 exact ⟨by first | rfl | (simp [errW_none, errW_some] <;> rfl) | (simp [*, errW_none, errW_some] <;> rfl), by (with_reducible repeat (first | apply Kd.R_alloc | apply Kd.R_drewN | apply Kd.R_drew)); exact HO0_6.out, by repeat (first | (with_reducible first | exact HB.out | apply below_alloc | apply pw_below_drewN | apply below_drew1 | refine below_set ?_ GE601.out) | exact HB.out), by repeat (first | (with_reducible first | exact HK.out | apply Kept.alloc | apply Kept.drewN | apply Kept.drew | refine Kept.setCell ?_ (.inr GW601.out) _) | exact HK.out)⟩

end Go.Proofs.Ytcogimnpffnanaa.Q
end

section
-- Written by a program of this session (wip/tools/pp.sh) over the print of the kit.
namespace Go.Proofs.Ytcogimnpffnanaa.Q
open Go.RowKit Go.Proofs.YtcogimnpffnanaaW.PrintWords Go.Proofs.YtcogimnpffnanaaW.PrintLast Go.Proofs.YtcogimnpffnanaaW.PrintMore
attribute [local go_sem] max2_int min2_int max_two min_two max_three min_three max_four min_four   -- for this text's walks alone
set_option linter.unusedVariables false
set_option linter.unusedSimpArgs false

/-! ### laws_FnExactGetMsg: function 5 -/
mutual
def laws_FnExactGetMsg.j0 : Nat → List Int → Bool → List Int → Bool → Bool → Int → Int → Int → Int → ByteArray → Int → List ByteArray → Int → Int → Int → Int → ByteArray → Int → List ByteArray → Option (Bool)
 | 0, _, _, _, _, _, _, _, _, _, _, _, _, _, _, _, _, _, _, _ => none
 | k + 1, x0, x4, x5, x7, x37, x615000, x615001, x615002, x615003, x615004, x615005, x615006, x629000, x629001, x629002, x629003, x629004, x629005, x629006 => if x37 = true then (none) else ((laws_toByteS.f k x0).bind fun t630 => ((laws_eqByteS.f k x5 t630).bind fun t633 => (if t633 = true then ((laws_markByteS.f k x5 1).bind fun bt634 => (if bt634.1 < 0 then (laws_FnExactGetMsg.j1 k x0 x4 true x615000 x615001 x615002 x615003 x615004 x615005 x615006 x629000 x629001 x629002 x629003 x629004 x629005 x629006) else ((laws_eqMsg.f k x629000 x629001 x629002 x629003 x629004 x629005 x629006 x615000 x615001 x615002 x615003 x615004 x615005 x615006).bind fun t636 => (if t636 = true then (laws_FnExactGetMsg.j1 k x0 x4 (x7 != x4) x615000 x615001 x615002 x615003 x615004 x615005 x615006 x629000 x629001 x629002 x629003 x629004 x629005 x629006) else (laws_FnExactGetMsg.j1 k x0 x4 true x615000 x615001 x615002 x615003 x615004 x615005 x615006 x629000 x629001 x629002 x629003 x629004 x629005 x629006))))) else (none))))
def laws_FnExactGetMsg.j1 : Nat → List Int → Bool → Bool → Int → Int → Int → Int → ByteArray → Int → List ByteArray → Int → Int → Int → Int → ByteArray → Int → List ByteArray → Option (Bool)
 | 0, _, _, _, _, _, _, _, _, _, _, _, _, _, _, _, _, _ => none
 | k + 1, x0, x4, x58, x615000, x615001, x615002, x615003, x615004, x615005, x615006, x629000, x629001, x629002, x629003, x629004, x629005, x629006 => if x58 = true then (none) else ((laws_markMsg.f k x629000 x629001 x629002 x629003 x629004 x629005 x629006 1).bind fun bt637 => ((laws_heldMsg.f k x629000 x629001 x629002 x629003 x629004 x629005 bt637.2 1).bind fun t639 => (if t639 < 0 then (none) else (if t639 = bt637.1 then ((laws_toByteS.f k x0).bind fun t640 => ((impl_GetMsg.f k t640).bind fun bt643 => ((laws_eqMsg.f k bt643.1 bt643.2.1 bt643.2.2.1 bt643.2.2.2.1 bt643.2.2.2.2.1 bt643.2.2.2.2.2.1 bt643.2.2.2.2.2.2.1 x615000 x615001 x615002 x615003 x615004 x615005 x615006).bind fun t654 => (if t654 = true then (laws_FnExactGetMsg.j2 k bt637.1 (bt643.2.2.2.2.2.2.2 != x4) x629000 x629001 x629002 x629003 x629004 x629005 bt637.2) else (laws_FnExactGetMsg.j2 k bt637.1 true x629000 x629001 x629002 x629003 x629004 x629005 bt637.2))))) else (none)))))
def laws_FnExactGetMsg.j2 : Nat → Int → Bool → Int → Int → Int → Int → ByteArray → Int → List ByteArray → Option (Bool)
 | 0, _, _, _, _, _, _, _, _, _ => none
 | k + 1, x9, x84, x629000, x629001, x629002, x629003, x629004, x629005, x629006 => if x84 = true then (none) else ((laws_heldMsg.f k x629000 x629001 x629002 x629003 x629004 x629005 x629006 1).bind fun t655 => (if t655 < 0 then (none) else (if t655 = x9 then (some true) else (none))))
end
def laws_FnExactGetMsg.f (k : Nat) (l0 : List Int) : Option (Bool) := if (l0.length : Int) > 1048576 then (some true) else ((laws_toByteS.f k l0).bind fun t601 => ((spec_GetMsg.f k t601).bind fun bt604 => ((laws_toByteS.f k l0).bind fun t615 => ((impl_GetMsg.f k t615).bind fun bt618 => ((laws_eqMsg.f k bt618.1 bt618.2.1 bt618.2.2.1 bt618.2.2.2.1 bt618.2.2.2.2.1 bt618.2.2.2.2.2.1 bt618.2.2.2.2.2.2.1 bt604.1 bt604.2.1 bt604.2.2.1 bt604.2.2.2.1 bt604.2.2.2.2.1 bt604.2.2.2.2.2.1 bt604.2.2.2.2.2.2.1).bind fun t629 => (if t629 = true then (laws_FnExactGetMsg.j0 k l0 bt604.2.2.2.2.2.2.2 t615 bt618.2.2.2.2.2.2.2 (bt618.2.2.2.2.2.2.2 != bt604.2.2.2.2.2.2.2) bt604.1 bt604.2.1 bt604.2.2.1 bt604.2.2.2.1 bt604.2.2.2.2.1 bt604.2.2.2.2.2.1 bt604.2.2.2.2.2.2.1 bt618.1 bt618.2.1 bt618.2.2.1 bt618.2.2.2.1 bt618.2.2.2.2.1 bt618.2.2.2.2.2.1 bt618.2.2.2.2.2.2.1) else (laws_FnExactGetMsg.j0 k l0 bt604.2.2.2.2.2.2.2 t615 bt618.2.2.2.2.2.2.2 true bt604.1 bt604.2.1 bt604.2.2.1 bt604.2.2.2.1 bt604.2.2.2.2.1 bt604.2.2.2.2.2.1 bt604.2.2.2.2.2.2.1 bt618.1 bt618.2.1 bt618.2.2.1 bt618.2.2.2.1 bt618.2.2.2.2.1 bt618.2.2.2.2.2.1 bt618.2.2.2.2.2.2.1)))))))
theorem laws_FnExactGetMsg.mono_l : ∀ k, (∀ y0 y1 y2 y3 y4 y5 y6 y7 y8 y9 y10 y11 y12 y13 y14 y15 y16 y17 y18, LeO (laws_FnExactGetMsg.j0 k y0 y1 y2 y3 y4 y5 y6 y7 y8 y9 y10 y11 y12 y13 y14 y15 y16 y17 y18) (laws_FnExactGetMsg.j0 (k + 1) y0 y1 y2 y3 y4 y5 y6 y7 y8 y9 y10 y11 y12 y13 y14 y15 y16 y17 y18)) ∧ (∀ y0 y1 y2 y3 y4 y5 y6 y7 y8 y9 y10 y11 y12 y13 y14 y15 y16, LeO (laws_FnExactGetMsg.j1 k y0 y1 y2 y3 y4 y5 y6 y7 y8 y9 y10 y11 y12 y13 y14 y15 y16) (laws_FnExactGetMsg.j1 (k + 1) y0 y1 y2 y3 y4 y5 y6 y7 y8 y9 y10 y11 y12 y13 y14 y15 y16)) ∧ (∀ y0 y1 y2 y3 y4 y5 y6 y7 y8, LeO (laws_FnExactGetMsg.j2 k y0 y1 y2 y3 y4 y5 y6 y7 y8) (laws_FnExactGetMsg.j2 (k + 1) y0 y1 y2 y3 y4 y5 y6 y7 y8))
 | 0 => ⟨fun _ _ _ _ _ _ _ _ _ _ _ _ _ _ _ _ _ _ _ r h => by simp [laws_FnExactGetMsg.j0] at h, fun _ _ _ _ _ _ _ _ _ _ _ _ _ _ _ _ _ r h => by simp [laws_FnExactGetMsg.j1] at h, fun _ _ _ _ _ _ _ _ _ r h => by simp [laws_FnExactGetMsg.j2] at h⟩
 | k + 1 => by
  obtain ⟨ih0, ih1, ih2⟩ := laws_FnExactGetMsg.mono_l k
  refine ⟨?_, ?_, ?_⟩
  ·intro y0 y1 y2 y3 y4 y5 y6 y7 y8 y9 y10 y11 y12 y13 y14 y15 y16 y17 y18
   unfold laws_FnExactGetMsg.j0
   repeat' first
   | (with_reducible exact ih0 _ _ _ _ _ _ _ _ _ _ _ _ _ _ _ _ _ _ _)
   | (with_reducible exact ih1 _ _ _ _ _ _ _ _ _ _ _ _ _ _ _ _ _)
   | (with_reducible exact ih2 _ _ _ _ _ _ _ _ _)
   | (with_reducible exact impl_GetMsg.mono _ _)
   | (with_reducible exact laws_eqByteS.mono _ _ _)
   | (with_reducible exact laws_eqMsg.mono _ _ _ _ _ _ _ _ _ _ _ _ _ _ _)
   | (with_reducible exact laws_heldMsg.mono _ _ _ _ _ _ _ _ _)
   | (with_reducible exact laws_markByteS.mono _ _ _)
   | (with_reducible exact laws_markMsg.mono _ _ _ _ _ _ _ _ _)
   | (with_reducible exact laws_toByteS.mono _ _)
   | (with_reducible exact spec_GetMsg.mono _ _)
   | (with_reducible exact LeO.refl _)
   | (with_reducible exact LeO.none _)
   | (with_reducible refine LeO.ite ?_ ?_)
   | (with_reducible refine LeO.bind ?_ (fun _ => ?_))
   | exact ih0 _ _ _ _ _ _ _ _ _ _ _ _ _ _ _ _ _ _ _
   | exact ih1 _ _ _ _ _ _ _ _ _ _ _ _ _ _ _ _ _
   | exact ih2 _ _ _ _ _ _ _ _ _
   | exact impl_GetMsg.mono _ _
   | exact laws_eqByteS.mono _ _ _
   | exact laws_eqMsg.mono _ _ _ _ _ _ _ _ _ _ _ _ _ _ _
   | exact laws_heldMsg.mono _ _ _ _ _ _ _ _ _
   | exact laws_markByteS.mono _ _ _
   | exact laws_markMsg.mono _ _ _ _ _ _ _ _ _
   | exact laws_toByteS.mono _ _
   | exact spec_GetMsg.mono _ _
   | exact LeO.none _
   | refine LeO.ite ?_ ?_
   | refine LeO.bind ?_ (fun _ => ?_)
  ·intro y0 y1 y2 y3 y4 y5 y6 y7 y8 y9 y10 y11 y12 y13 y14 y15 y16
   unfold laws_FnExactGetMsg.j1
   repeat' first
   | (with_reducible exact ih0 _ _ _ _ _ _ _ _ _ _ _ _ _ _ _ _ _ _ _)
   | (with_reducible exact ih1 _ _ _ _ _ _ _ _ _ _ _ _ _ _ _ _ _)
   | (with_reducible exact ih2 _ _ _ _ _ _ _ _ _)
   | (with_reducible exact impl_GetMsg.mono _ _)
   | (with_reducible exact laws_eqByteS.mono _ _ _)
   | (with_reducible exact laws_eqMsg.mono _ _ _ _ _ _ _ _ _ _ _ _ _ _ _)
   | (with_reducible exact laws_heldMsg.mono _ _ _ _ _ _ _ _ _)
   | (with_reducible exact laws_markByteS.mono _ _ _)
   | (with_reducible exact laws_markMsg.mono _ _ _ _ _ _ _ _ _)
   | (with_reducible exact laws_toByteS.mono _ _)
   | (with_reducible exact spec_GetMsg.mono _ _)
   | (with_reducible exact LeO.refl _)
   | (with_reducible exact LeO.none _)
   | (with_reducible refine LeO.ite ?_ ?_)
   | (with_reducible refine LeO.bind ?_ (fun _ => ?_))
   | exact ih0 _ _ _ _ _ _ _ _ _ _ _ _ _ _ _ _ _ _ _
   | exact ih1 _ _ _ _ _ _ _ _ _ _ _ _ _ _ _ _ _
   | exact ih2 _ _ _ _ _ _ _ _ _
   | exact impl_GetMsg.mono _ _
   | exact laws_eqByteS.mono _ _ _
   | exact laws_eqMsg.mono _ _ _ _ _ _ _ _ _ _ _ _ _ _ _
   | exact laws_heldMsg.mono _ _ _ _ _ _ _ _ _
   | exact laws_markByteS.mono _ _ _
   | exact laws_markMsg.mono _ _ _ _ _ _ _ _ _
   | exact laws_toByteS.mono _ _
   | exact spec_GetMsg.mono _ _
   | exact LeO.none _
   | refine LeO.ite ?_ ?_
   | refine LeO.bind ?_ (fun _ => ?_)
  ·intro y0 y1 y2 y3 y4 y5 y6 y7 y8
   unfold laws_FnExactGetMsg.j2
   repeat' first
   | (with_reducible exact ih0 _ _ _ _ _ _ _ _ _ _ _ _ _ _ _ _ _ _ _)
   | (with_reducible exact ih1 _ _ _ _ _ _ _ _ _ _ _ _ _ _ _ _ _)
   | (with_reducible exact ih2 _ _ _ _ _ _ _ _ _)
   | (with_reducible exact impl_GetMsg.mono _ _)
   | (with_reducible exact laws_eqByteS.mono _ _ _)
   | (with_reducible exact laws_eqMsg.mono _ _ _ _ _ _ _ _ _ _ _ _ _ _ _)
   | (with_reducible exact laws_heldMsg.mono _ _ _ _ _ _ _ _ _)
   | (with_reducible exact laws_markByteS.mono _ _ _)
   | (with_reducible exact laws_markMsg.mono _ _ _ _ _ _ _ _ _)
   | (with_reducible exact laws_toByteS.mono _ _)
   | (with_reducible exact spec_GetMsg.mono _ _)
   | (with_reducible exact LeO.refl _)
   | (with_reducible exact LeO.none _)
   | (with_reducible refine LeO.ite ?_ ?_)
   | (with_reducible refine LeO.bind ?_ (fun _ => ?_))
   | exact ih0 _ _ _ _ _ _ _ _ _ _ _ _ _ _ _ _ _ _ _
   | exact ih1 _ _ _ _ _ _ _ _ _ _ _ _ _ _ _ _ _
   | exact ih2 _ _ _ _ _ _ _ _ _
   | exact impl_GetMsg.mono _ _
   | exact laws_eqByteS.mono _ _ _
   | exact laws_eqMsg.mono _ _ _ _ _ _ _ _ _ _ _ _ _ _ _
   | exact laws_heldMsg.mono _ _ _ _ _ _ _ _ _
   | exact laws_markByteS.mono _ _ _
   | exact laws_markMsg.mono _ _ _ _ _ _ _ _ _
   | exact laws_toByteS.mono _ _
   | exact spec_GetMsg.mono _ _
   | exact LeO.none _
   | refine LeO.ite ?_ ?_
   | refine LeO.bind ?_ (fun _ => ?_)
theorem laws_FnExactGetMsg.mono : ∀ a0 k, LeO (laws_FnExactGetMsg.f k a0) (laws_FnExactGetMsg.f (k + 1) a0) := by
 intro a0 k
 obtain ⟨ih0, ih1, ih2⟩ := laws_FnExactGetMsg.mono_l k
 unfold laws_FnExactGetMsg.f
 repeat' first
   | (with_reducible exact ih0 _ _ _ _ _ _ _ _ _ _ _ _ _ _ _ _ _ _ _)
   | (with_reducible exact ih1 _ _ _ _ _ _ _ _ _ _ _ _ _ _ _ _ _)
   | (with_reducible exact ih2 _ _ _ _ _ _ _ _ _)
   | (with_reducible exact impl_GetMsg.mono _ _)
   | (with_reducible exact laws_eqByteS.mono _ _ _)
   | (with_reducible exact laws_eqMsg.mono _ _ _ _ _ _ _ _ _ _ _ _ _ _ _)
   | (with_reducible exact laws_heldMsg.mono _ _ _ _ _ _ _ _ _)
   | (with_reducible exact laws_markByteS.mono _ _ _)
   | (with_reducible exact laws_markMsg.mono _ _ _ _ _ _ _ _ _)
   | (with_reducible exact laws_toByteS.mono _ _)
   | (with_reducible exact spec_GetMsg.mono _ _)
   | (with_reducible exact LeO.refl _)
   | (with_reducible exact LeO.none _)
   | (with_reducible refine LeO.ite ?_ ?_)
   | (with_reducible refine LeO.bind ?_ (fun _ => ?_))
   | exact ih0 _ _ _ _ _ _ _ _ _ _ _ _ _ _ _ _ _ _ _
   | exact ih1 _ _ _ _ _ _ _ _ _ _ _ _ _ _ _ _ _
   | exact ih2 _ _ _ _ _ _ _ _ _
   | exact impl_GetMsg.mono _ _
   | exact laws_eqByteS.mono _ _ _
   | exact laws_eqMsg.mono _ _ _ _ _ _ _ _ _ _ _ _ _ _ _
   | exact laws_heldMsg.mono _ _ _ _ _ _ _ _ _
   | exact laws_markByteS.mono _ _ _
   | exact laws_markMsg.mono _ _ _ _ _ _ _ _ _
   | exact laws_toByteS.mono _ _
   | exact spec_GetMsg.mono _ _
   | exact LeO.none _
   | refine LeO.ite ?_ ?_
   | refine LeO.bind ?_ (fun _ => ?_)
set_option maxHeartbeats 8000000 in
set_option maxRecDepth 100000 in
theorem laws_FnExactGetMsg.calls (k : Nat) (A0 : Option Addr) (c0 : Nat) (l0 : List Int) (r : Bool) (w : World) (hr0 : Kd.C (Kd.int .u8) w A0 l0.length l0) (hc0 : l0.length ≤ c0) (h : laws_FnExactGetMsg.f k l0 = some r) :
  Calls Try.prog 5 #[.slice A0 l0.length c0] w fun e w' => e = .returned (.bool r) ∧ Below w.heap.size w w' := by
 have hu33 := Try.underlying33
 have HR0 := Aside0.mk hr0
 have HC0 := Aside0.mk hc0
 clear hr0 hc0
 have HB := Aside0.mk (Below.refl w.heap.size w)
 have H : (if (l0.length : Int) > 1048576 then (some true) else ((laws_toByteS.f k l0).bind fun t601 => ((spec_GetMsg.f k t601).bind fun bt604 => ((laws_toByteS.f k l0).bind fun t615 => ((impl_GetMsg.f k t615).bind fun bt618 => ((laws_eqMsg.f k bt618.1 bt618.2.1 bt618.2.2.1 bt618.2.2.2.1 bt618.2.2.2.2.1 bt618.2.2.2.2.2.1 bt618.2.2.2.2.2.2.1 bt604.1 bt604.2.1 bt604.2.2.1 bt604.2.2.2.1 bt604.2.2.2.2.1 bt604.2.2.2.2.2.1 bt604.2.2.2.2.2.2.1).bind fun t629 => (if t629 = true then (laws_FnExactGetMsg.j0 k l0 bt604.2.2.2.2.2.2.2 t615 bt618.2.2.2.2.2.2.2 (bt618.2.2.2.2.2.2.2 != bt604.2.2.2.2.2.2.2) bt604.1 bt604.2.1 bt604.2.2.1 bt604.2.2.2.1 bt604.2.2.2.2.1 bt604.2.2.2.2.2.1 bt604.2.2.2.2.2.2.1 bt618.1 bt618.2.1 bt618.2.2.1 bt618.2.2.2.1 bt618.2.2.2.2.1 bt618.2.2.2.2.2.1 bt618.2.2.2.2.2.2.1) else (laws_FnExactGetMsg.j0 k l0 bt604.2.2.2.2.2.2.2 t615 bt618.2.2.2.2.2.2.2 true bt604.1 bt604.2.1 bt604.2.2.1 bt604.2.2.2.1 bt604.2.2.2.2.1 bt604.2.2.2.2.2.1 bt604.2.2.2.2.2.2.1 bt618.1 bt618.2.1 bt618.2.2.1 bt618.2.2.2.1 bt618.2.2.2.2.1 bt618.2.2.2.2.2.1 bt618.2.2.2.2.2.2.1)))))))) = some r := h
 clear h
 by_cases c2 : (l0.length : Int) > 1048576
 ·rw [if_pos c2] at H
  have c2b0 : decide (1048576 < (l0.length : Int)) = true := decide_eq_true c2
  have c2b1 : decide (1048576 < l0.length) = true := decide_eq_true (by omega)
  clear c2
  obtain rfl := Option.some.inj H
  go_enter Try.func5, Try.ntmps5
  go_wp2
  go_ret
  exact ⟨by first | rfl | (simp [errW_none, errW_some] <;> rfl) | (simp [*, errW_none, errW_some] <;> rfl), by repeat (first | (with_reducible first | exact HB.out | apply below_alloc | apply pw_below_drewN | apply below_drew1) | exact HB.out)⟩
 ·rw [if_neg c2] at H
  have c2b0 : decide (1048576 < (l0.length : Int)) = false := decide_eq_false c2
  have c2b1 : decide (1048576 < l0.length) = false := decide_eq_false (by omega)
  clear c2
  replace H := Option.bind_eq_some_iff.mp H
  obtain ⟨t601, A30, H⟩ := H
  replace H : ((spec_GetMsg.f k t601).bind fun bt604 => ((laws_toByteS.f k l0).bind fun t615 => ((impl_GetMsg.f k t615).bind fun bt618 => ((laws_eqMsg.f k bt618.1 bt618.2.1 bt618.2.2.1 bt618.2.2.2.1 bt618.2.2.2.2.1 bt618.2.2.2.2.2.1 bt618.2.2.2.2.2.2.1 bt604.1 bt604.2.1 bt604.2.2.1 bt604.2.2.2.1 bt604.2.2.2.2.1 bt604.2.2.2.2.2.1 bt604.2.2.2.2.2.2.1).bind fun t629 => (if t629 = true then (laws_FnExactGetMsg.j0 k l0 bt604.2.2.2.2.2.2.2 t615 bt618.2.2.2.2.2.2.2 (bt618.2.2.2.2.2.2.2 != bt604.2.2.2.2.2.2.2) bt604.1 bt604.2.1 bt604.2.2.1 bt604.2.2.2.1 bt604.2.2.2.2.1 bt604.2.2.2.2.2.1 bt604.2.2.2.2.2.2.1 bt618.1 bt618.2.1 bt618.2.2.1 bt618.2.2.2.1 bt618.2.2.2.2.1 bt618.2.2.2.2.2.1 bt618.2.2.2.2.2.2.1) else (laws_FnExactGetMsg.j0 k l0 bt604.2.2.2.2.2.2.2 t615 bt618.2.2.2.2.2.2.2 true bt604.1 bt604.2.1 bt604.2.2.1 bt604.2.2.2.1 bt604.2.2.2.2.1 bt604.2.2.2.2.2.1 bt604.2.2.2.2.2.2.1 bt618.1 bt618.2.1 bt618.2.2.1 bt618.2.2.2.1 bt618.2.2.2.2.1 bt618.2.2.2.2.2.1 bt618.2.2.2.2.2.2.1)))))) = some r := H
  have A3 := Aside0.mk A30
  clear A30
  replace H := Option.bind_eq_some_iff.mp H
  obtain ⟨⟨t604, t605, t606, t607, t608, t609, t610, t613⟩, A40, H⟩ := H
  replace H : ((laws_toByteS.f k l0).bind fun t615 => ((impl_GetMsg.f k t615).bind fun bt618 => ((laws_eqMsg.f k bt618.1 bt618.2.1 bt618.2.2.1 bt618.2.2.2.1 bt618.2.2.2.2.1 bt618.2.2.2.2.2.1 bt618.2.2.2.2.2.2.1 t604 t605 t606 t607 t608 t609 t610).bind fun t629 => (if t629 = true then (laws_FnExactGetMsg.j0 k l0 t613 t615 bt618.2.2.2.2.2.2.2 (bt618.2.2.2.2.2.2.2 != t613) t604 t605 t606 t607 t608 t609 t610 bt618.1 bt618.2.1 bt618.2.2.1 bt618.2.2.2.1 bt618.2.2.2.2.1 bt618.2.2.2.2.2.1 bt618.2.2.2.2.2.2.1) else (laws_FnExactGetMsg.j0 k l0 t613 t615 bt618.2.2.2.2.2.2.2 true t604 t605 t606 t607 t608 t609 t610 bt618.1 bt618.2.1 bt618.2.2.1 bt618.2.2.2.1 bt618.2.2.2.2.1 bt618.2.2.2.2.2.1 bt618.2.2.2.2.2.2.1))))) = some r := H
  have A4 := Aside0.mk A40
  clear A40
  replace H := Option.bind_eq_some_iff.mp H
  obtain ⟨t615, A50, H⟩ := H
  replace H : ((impl_GetMsg.f k t615).bind fun bt618 => ((laws_eqMsg.f k bt618.1 bt618.2.1 bt618.2.2.1 bt618.2.2.2.1 bt618.2.2.2.2.1 bt618.2.2.2.2.2.1 bt618.2.2.2.2.2.2.1 t604 t605 t606 t607 t608 t609 t610).bind fun t629 => (if t629 = true then (laws_FnExactGetMsg.j0 k l0 t613 t615 bt618.2.2.2.2.2.2.2 (bt618.2.2.2.2.2.2.2 != t613) t604 t605 t606 t607 t608 t609 t610 bt618.1 bt618.2.1 bt618.2.2.1 bt618.2.2.2.1 bt618.2.2.2.2.1 bt618.2.2.2.2.2.1 bt618.2.2.2.2.2.2.1) else (laws_FnExactGetMsg.j0 k l0 t613 t615 bt618.2.2.2.2.2.2.2 true t604 t605 t606 t607 t608 t609 t610 bt618.1 bt618.2.1 bt618.2.2.1 bt618.2.2.2.1 bt618.2.2.2.2.1 bt618.2.2.2.2.2.1 bt618.2.2.2.2.2.2.1)))) = some r := H
  have A5 := Aside0.mk A50
  clear A50
  replace H := Option.bind_eq_some_iff.mp H
  obtain ⟨⟨t618, t619, t620, t621, t622, t623, t624, t627⟩, A60, H⟩ := H
  replace H : ((laws_eqMsg.f k t618 t619 t620 t621 t622 t623 t624 t604 t605 t606 t607 t608 t609 t610).bind fun t629 => (if t629 = true then (laws_FnExactGetMsg.j0 k l0 t613 t615 t627 (t627 != t613) t604 t605 t606 t607 t608 t609 t610 t618 t619 t620 t621 t622 t623 t624) else (laws_FnExactGetMsg.j0 k l0 t613 t615 t627 true t604 t605 t606 t607 t608 t609 t610 t618 t619 t620 t621 t622 t623 t624))) = some r := H
  have A6 := Aside0.mk A60
  clear A60
  have HC7 := Aside0.mk H
  clear H
  go_enter Try.func5, Try.ntmps5
  go_upto_region 6 with (first | ((with_reducible refine gate_callee (f := 27) rfl ?_); refine goesL_ (some 18) rfl rfl Try.func27 (by kernel_rfl) rfl #[.slice A0 l0.length c0] rfl (by (try simp only [List.map_toArray, List.map_cons, List.map_nil]); first | done | rfl | (simp only [List.length_drop, List.length_take]; rfl)) ?_; (with_reducible refine (laws_toByteS.calls k _ _ l0 t601 _ ?side1 ?side2 A3.out).mono ?_); (case side1 => repeat (first | exact HR0.out | (with_reducible refine Kd.C_alloc ?_ _) | (with_reducible refine Kd.C_drewN ?_ _) | (with_reducible refine Kd.C_drew ?_))); (case side2 => exact HC0.out); rintro e w8 ⟨v602, rfl, ho0, hb⟩; refine ⟨_, rfl, ?_⟩; have n0_ := Aside0.mk (Kd.R_lower ho0 (below_size (by repeat (first | (with_reducible first | exact HB.out | apply below_alloc | apply pw_below_drewN | apply below_drew1) | exact HB.out)))); have n1_ := Aside0.mk (below_step (by repeat (first | (with_reducible first | exact HB.out | apply below_alloc | apply pw_below_drewN | apply below_drew1) | exact HB.out)) hb); clear HB; have HO603 := n0_; have HB := n1_; clear n0_ n1_; (try clear hb); (try clear hb2); (try clear hk); (try clear hi); (try clear ho0); obtain ⟨Ao9, co9, eo9⟩ := Kd.R_slice HO603.out; subst eo9) | ((with_reducible refine gate_callee (f := 26) rfl ?_); refine goesL_ (some 19) rfl rfl Try.func26 (by kernel_rfl) rfl #[.slice Ao9 t601.length co9] rfl (by (try simp only [List.map_toArray, List.map_cons, List.map_nil]); first | done | rfl | (simp only [List.length_drop, List.length_take]; rfl)) ?_; (with_reducible refine (spec_GetMsg.calls k _ _ t601 t604 t605 t606 t607 t608 t609 t610 t613 _ ?side1 ?side2 A4.out).mono ?_); (case side1 => repeat (first | exact (Kd.R_reads' HO603.out).2.2 | (with_reducible refine Kd.C_alloc ?_ _) | (with_reducible refine Kd.C_drewN ?_ _) | (with_reducible refine Kd.C_drew ?_))); (case side2 => exact (Kd.R_reads' HO603.out).2.1); rintro e w10 ⟨v611, rfl, ho0, hb⟩; refine ⟨_, rfl, ?_⟩; have n0_ := Aside0.mk (Kd.R_below (by (with_reducible repeat (first | apply Kd.R_alloc | apply Kd.R_drewN | apply Kd.R_drew)); exact HO603.out) hb); have n1_ := Aside0.mk (Kd.R_lower ho0 (below_size (by repeat (first | (with_reducible first | exact HB.out | apply below_alloc | apply pw_below_drewN | apply below_drew1) | exact HB.out)))); have n2_ := Aside0.mk (below_step (by repeat (first | (with_reducible first | exact HB.out | apply below_alloc | apply pw_below_drewN | apply below_drew1) | exact HB.out)) hb); clear HO603; clear HB; have HO603 := n0_; have HO612 := n1_; have HB := n2_; clear n0_ n1_ n2_; (try clear hb); (try clear hb2); (try clear hk); (try clear hi); (try clear ho0)) | ((with_reducible refine gate_dst (N := 3) rfl ?_); refine box_event ?hg (N := 3) ?hd (cs := #[.int .i64 0, .int .i64 0, .int .i64 0, .int .i64 0, .string (⟨#[]⟩ : ByteArray), .int .i64 0, .slice none 0 0]) (t := 33) ?hr ?_; (case hd => rfl); (case hg => rfl); (case hr => first | (go_simp; done) | (go_simp; rfl)); intro gb614 hg w11 hbox hb; have n0_ := Aside0.mk (Kd.R_below (by (with_reducible repeat (first | apply Kd.R_alloc | apply Kd.R_drewN | apply Kd.R_drew)); exact HO603.out) hb); have n1_ := Aside0.mk (Kd.R_below (by (with_reducible repeat (first | apply Kd.R_alloc | apply Kd.R_drewN | apply Kd.R_drew)); exact HO612.out) hb); have n2_ := Aside0.mk (below_step (by repeat (first | (with_reducible first | exact HB.out | apply below_alloc | apply pw_below_drewN | apply below_drew1) | exact HB.out)) hb); have n3_ := Aside0.mk (hbox); have n4_ := Aside0.mk ((by rw [hg]; exact (below_size (by repeat (first | (with_reducible first | exact HB.out | apply below_alloc | apply pw_below_drewN | apply below_drew1) | exact HB.out))) : w.heap.size ≤ gb614)); have n5_ := Aside0.mk ((by rw [hg]; exact (below_size (by repeat (first | (with_reducible first | exact HB.out | apply below_alloc | apply pw_below_drewN | apply below_drew1) | exact HB.out))) : w.heap.size ≤ gb614)); clear HO603; clear HO612; clear HB; have HO603 := n0_; have HO612 := n1_; have HB := n2_; have BK614 := n3_; have GW614 := n4_; have GE614 := n5_; clear n0_ n1_ n2_ n3_ n4_ n5_; clear hb hbox hg; have hcz12_0 : w11.cell? ⟨gb614, 0, none⟩ = some (.int .i64 0) := (blk_cell BK614.out 0).trans rfl; have hcz12_1 : w11.cell? ⟨gb614, 1, none⟩ = some (.int .i64 0) := (blk_cell BK614.out 1).trans rfl; have hcz12_2 : w11.cell? ⟨gb614, 2, none⟩ = some (.int .i64 0) := (blk_cell BK614.out 2).trans rfl; have hcz12_3 : w11.cell? ⟨gb614, 3, none⟩ = some (.int .i64 0) := (blk_cell BK614.out 3).trans rfl; have hcz12_4 : w11.cell? ⟨gb614, 4, none⟩ = some (.string (⟨#[]⟩ : ByteArray)) := (blk_cell BK614.out 4).trans rfl; have hcz12_5 : w11.cell? ⟨gb614, 5, none⟩ = some (.int .i64 0) := (blk_cell BK614.out 5).trans rfl; have hcz12_6 : w11.cell? ⟨gb614, 6, none⟩ = some (.slice none 0 0) := (blk_cell BK614.out 6).trans rfl; have hfz12_0 := blk_frozen BK614.out 0; have hfz12_1 := blk_frozen BK614.out 1; have hfz12_2 := blk_frozen BK614.out 2; have hfz12_3 := blk_frozen BK614.out 3; have hfz12_4 := blk_frozen BK614.out 4; have hfz12_5 := blk_frozen BK614.out 5; have hfz12_6 := blk_frozen BK614.out 6; obtain ⟨Ao13, co13, eo13⟩ := Kd.R_slice HO612.out; subst eo13) | ((with_reducible refine gate_callee (f := 27) rfl ?_); refine goesL_ (some 23) rfl rfl Try.func27 (by kernel_rfl) rfl #[.slice A0 l0.length c0] rfl (by (try simp only [List.map_toArray, List.map_cons, List.map_nil]); first | done | rfl | (simp only [List.length_drop, List.length_take]; rfl)) ?_; (with_reducible refine (laws_toByteS.calls k _ _ l0 t615 _ ?side1 ?side2 A5.out).mono ?_); (case side1 => exact Kd.C_below HR0.out (by repeat (first | (with_reducible first | exact HB.out | apply below_alloc | apply pw_below_drewN | apply below_drew1 | refine below_set ?_ GE614.out) | exact HB.out))); (case side2 => exact HC0.out); rintro e w14 ⟨v616, rfl, ho0, hb⟩; refine ⟨_, rfl, ?_⟩; have n0_ := Aside0.mk (Kd.R_elder' (by (with_reducible repeat (first | apply Kd.R_alloc | apply Kd.R_drewN | apply Kd.R_drew)); exact (Kd.R_mono (Kd.R_far (p := ⟨gb614, 6, none⟩) (Kd.R_far (p := ⟨gb614, 5, none⟩) (Kd.R_far (p := ⟨gb614, 4, none⟩) (Kd.R_far (p := ⟨gb614, 3, none⟩) (Kd.R_far (p := ⟨gb614, 2, none⟩) (Kd.R_far (p := ⟨gb614, 1, none⟩) (Kd.R_far (p := ⟨gb614, 0, none⟩) (Kd.R_types HO603.out BK614.out (by decide)) (fun _ hk => hk.2) (.int .i64 t604)) (fun _ hk => hk.2) (.int .i64 t605)) (fun _ hk => hk.2) (.int .i64 t606)) (fun _ hk => hk.2) (.int .i64 t607)) (fun _ hk => hk.2) (.string t608)) (fun _ hk => hk.2) (.int .i64 t609)) (fun _ hk => hk.2) (.slice Ao13 t610.length co13)) (fun _ h_ => h_.1))) (Kd.R_base ho0) hb); have n1_ := Aside0.mk (Kd.R_below (by (with_reducible repeat (first | apply Kd.R_alloc | apply Kd.R_drewN | apply Kd.R_drew)); exact (Kd.R_mono (Kd.R_far (p := ⟨gb614, 6, none⟩) (Kd.R_far (p := ⟨gb614, 5, none⟩) (Kd.R_far (p := ⟨gb614, 4, none⟩) (Kd.R_far (p := ⟨gb614, 3, none⟩) (Kd.R_far (p := ⟨gb614, 2, none⟩) (Kd.R_far (p := ⟨gb614, 1, none⟩) (Kd.R_far (p := ⟨gb614, 0, none⟩) (Kd.R_types HO612.out BK614.out (by decide)) (fun _ hk => hk.2) (.int .i64 t604)) (fun _ hk => hk.2) (.int .i64 t605)) (fun _ hk => hk.2) (.int .i64 t606)) (fun _ hk => hk.2) (.int .i64 t607)) (fun _ hk => hk.2) (.string t608)) (fun _ hk => hk.2) (.int .i64 t609)) (fun _ hk => hk.2) (.slice Ao13 t610.length co13)) (fun _ h_ => h_.1))) hb); have n2_ := Aside0.mk (Kd.R_lower (Kd.R_new' ho0 (Kd.R_lt (by (with_reducible repeat (first | apply Kd.R_alloc | apply Kd.R_drewN | apply Kd.R_drew)); exact (Kd.R_mono (Kd.R_far (p := ⟨gb614, 6, none⟩) (Kd.R_far (p := ⟨gb614, 5, none⟩) (Kd.R_far (p := ⟨gb614, 4, none⟩) (Kd.R_far (p := ⟨gb614, 3, none⟩) (Kd.R_far (p := ⟨gb614, 2, none⟩) (Kd.R_far (p := ⟨gb614, 1, none⟩) (Kd.R_far (p := ⟨gb614, 0, none⟩) (Kd.R_types HO603.out BK614.out (by decide)) (fun _ hk => hk.2) (.int .i64 t604)) (fun _ hk => hk.2) (.int .i64 t605)) (fun _ hk => hk.2) (.int .i64 t606)) (fun _ hk => hk.2) (.int .i64 t607)) (fun _ hk => hk.2) (.string t608)) (fun _ hk => hk.2) (.int .i64 t609)) (fun _ hk => hk.2) (.slice Ao13 t610.length co13)) (fun _ h_ => h_.1))))) (below_size (by repeat (first | (with_reducible first | exact HB.out | apply below_alloc | apply pw_below_drewN | apply below_drew1 | refine below_set ?_ GE614.out) | exact HB.out)))); have n3_ := Aside0.mk (blk_below (g := gb614) (o := .cells #[.int .i64 t604, .int .i64 t605, .int .i64 t606, .int .i64 t607, .string t608, .int .i64 t609, .slice Ao13 t610.length co13] 33 (0, 0)) (by (with_reducible repeat (first | refine blk_drewN ?_ _ | refine blk_drew ?_ | refine blk_alloc ?_ _)); refine blk_put (cs := #[.int .i64 t604, .int .i64 t605, .int .i64 t606, .int .i64 t607, .string t608, .int .i64 t609, .slice none 0 0]) ?_ 6 _ rfl; (with_reducible repeat (first | refine blk_drewN ?_ _ | refine blk_drew ?_ | refine blk_alloc ?_ _)); refine blk_put (cs := #[.int .i64 t604, .int .i64 t605, .int .i64 t606, .int .i64 t607, .string t608, .int .i64 0, .slice none 0 0]) ?_ 5 _ rfl; (with_reducible repeat (first | refine blk_drewN ?_ _ | refine blk_drew ?_ | refine blk_alloc ?_ _)); refine blk_put (cs := #[.int .i64 t604, .int .i64 t605, .int .i64 t606, .int .i64 t607, .string (⟨#[]⟩ : ByteArray), .int .i64 0, .slice none 0 0]) ?_ 4 _ rfl; (with_reducible repeat (first | refine blk_drewN ?_ _ | refine blk_drew ?_ | refine blk_alloc ?_ _)); refine blk_put (cs := #[.int .i64 t604, .int .i64 t605, .int .i64 t606, .int .i64 0, .string (⟨#[]⟩ : ByteArray), .int .i64 0, .slice none 0 0]) ?_ 3 _ rfl; (with_reducible repeat (first | refine blk_drewN ?_ _ | refine blk_drew ?_ | refine blk_alloc ?_ _)); refine blk_put (cs := #[.int .i64 t604, .int .i64 t605, .int .i64 0, .int .i64 0, .string (⟨#[]⟩ : ByteArray), .int .i64 0, .slice none 0 0]) ?_ 2 _ rfl; (with_reducible repeat (first | refine blk_drewN ?_ _ | refine blk_drew ?_ | refine blk_alloc ?_ _)); refine blk_put (cs := #[.int .i64 t604, .int .i64 0, .int .i64 0, .int .i64 0, .string (⟨#[]⟩ : ByteArray), .int .i64 0, .slice none 0 0]) ?_ 1 _ rfl; (with_reducible repeat (first | refine blk_drewN ?_ _ | refine blk_drew ?_ | refine blk_alloc ?_ _)); refine blk_put (cs := #[.int .i64 0, .int .i64 0, .int .i64 0, .int .i64 0, .string (⟨#[]⟩ : ByteArray), .int .i64 0, .slice none 0 0]) ?_ 0 _ rfl; (with_reducible repeat (first | refine blk_drewN ?_ _ | refine blk_drew ?_ | refine blk_alloc ?_ _)); exact BK614.out) hb); have n4_ := Aside0.mk (below_step (by repeat (first | (with_reducible first | exact HB.out | apply below_alloc | apply pw_below_drewN | apply below_drew1 | refine below_set ?_ GE614.out) | exact HB.out)) hb); clear HO603; clear HO612; clear BK614; clear HB; have HO603 := n0_; have HO612 := n1_; have HO617 := n2_; have BK614 := n3_; have HB := n4_; clear n0_ n1_ n2_ n3_ n4_; (try clear hb); (try clear hb2); (try clear hk); (try clear hi); (try clear ho0); obtain ⟨Ao15, co15, eo15⟩ := Kd.R_slice HO617.out; subst eo15) | ((with_reducible refine gate_callee (f := 28) rfl ?_); refine goesL_ (some 26) rfl rfl Try.func28 (by kernel_rfl) rfl #[.slice Ao15 t615.length co15] rfl (by (try simp only [List.map_toArray, List.map_cons, List.map_nil]); first | done | rfl | (simp only [List.length_drop, List.length_take]; rfl)) ?_; (with_reducible refine (impl_GetMsg.calls k _ _ t615 t618 t619 t620 t621 t622 t623 t624 t627 _ ?side1 ?side2 A6.out).mono ?_); (case side1 => repeat (first | exact (Kd.R_reads' HO617.out).2.2 | (with_reducible refine Kd.C_alloc ?_ _) | (with_reducible refine Kd.C_drewN ?_ _) | (with_reducible refine Kd.C_drew ?_))); (case side2 => exact (Kd.R_reads' HO617.out).2.1); rintro e w16 ⟨v625, rfl, ho0, hb⟩; refine ⟨_, rfl, ?_⟩; have n0_ := Aside0.mk (Kd.R_below (by (with_reducible repeat (first | apply Kd.R_alloc | apply Kd.R_drewN | apply Kd.R_drew)); exact HO603.out) hb); have n1_ := Aside0.mk (Kd.R_elder' (by (with_reducible repeat (first | apply Kd.R_alloc | apply Kd.R_drewN | apply Kd.R_drew)); exact HO612.out) (Kd.R_base ho0) hb); have n2_ := Aside0.mk (Kd.R_below (by (with_reducible repeat (first | apply Kd.R_alloc | apply Kd.R_drewN | apply Kd.R_drew)); exact HO617.out) hb); have n3_ := Aside0.mk (Kd.R_lower (Kd.R_new' ho0 (Kd.R_lt (by (with_reducible repeat (first | apply Kd.R_alloc | apply Kd.R_drewN | apply Kd.R_drew)); exact HO612.out))) (below_size (by repeat (first | (with_reducible first | exact HB.out | apply below_alloc | apply pw_below_drewN | apply below_drew1 | refine below_set ?_ GE614.out) | exact HB.out)))); have n4_ := Aside0.mk (blk_below (g := gb614) (o := .cells #[.int .i64 t604, .int .i64 t605, .int .i64 t606, .int .i64 t607, .string t608, .int .i64 t609, .slice Ao13 t610.length co13] 33 (0, 0)) (by (with_reducible repeat (first | refine blk_drewN ?_ _ | refine blk_drew ?_ | refine blk_alloc ?_ _)); exact BK614.out) hb); have n5_ := Aside0.mk (below_step (by repeat (first | (with_reducible first | exact HB.out | apply below_alloc | apply pw_below_drewN | apply below_drew1 | refine below_set ?_ GE614.out) | exact HB.out)) hb); clear HO603; clear HO612; clear HO617; clear BK614; clear HB; have HO603 := n0_; have HO612 := n1_; have HO617 := n2_; have HO626 := n3_; have BK614 := n4_; have HB := n5_; clear n0_ n1_ n2_ n3_ n4_ n5_; (try clear hb); (try clear hb2); (try clear hk); (try clear hi); (try clear ho0)) | ((with_reducible refine gate_dst (N := 6) rfl ?_); refine box_event ?hg (N := 6) ?hd (cs := #[.int .i64 0, .int .i64 0, .int .i64 0, .int .i64 0, .string (⟨#[]⟩ : ByteArray), .int .i64 0, .slice none 0 0]) (t := 33) ?hr ?_; (case hd => rfl); (case hg => rfl); (case hr => first | (go_simp; done) | (go_simp; rfl)); intro gb628 hg w17 hbox hb; have n0_ := Aside0.mk (Kd.R_below (by (with_reducible repeat (first | apply Kd.R_alloc | apply Kd.R_drewN | apply Kd.R_drew)); exact HO603.out) hb); have n1_ := Aside0.mk (Kd.R_below (by (with_reducible repeat (first | apply Kd.R_alloc | apply Kd.R_drewN | apply Kd.R_drew)); exact HO612.out) hb); have n2_ := Aside0.mk (Kd.R_below (by (with_reducible repeat (first | apply Kd.R_alloc | apply Kd.R_drewN | apply Kd.R_drew)); exact HO617.out) hb); have n3_ := Aside0.mk (Kd.R_below (by (with_reducible repeat (first | apply Kd.R_alloc | apply Kd.R_drewN | apply Kd.R_drew)); exact HO626.out) hb); have n4_ := Aside0.mk (blk_below (g := gb614) (o := .cells #[.int .i64 t604, .int .i64 t605, .int .i64 t606, .int .i64 t607, .string t608, .int .i64 t609, .slice Ao13 t610.length co13] 33 (0, 0)) (by (with_reducible repeat (first | refine blk_drewN ?_ _ | refine blk_drew ?_ | refine blk_alloc ?_ _)); exact BK614.out) hb); have n5_ := Aside0.mk (below_step (by repeat (first | (with_reducible first | exact HB.out | apply below_alloc | apply pw_below_drewN | apply below_drew1 | refine below_set ?_ GE614.out) | exact HB.out)) hb); have n6_ := Aside0.mk (hbox); have n7_ := Aside0.mk ((by rw [hg]; exact (below_size (by repeat (first | (with_reducible first | exact HB.out | apply below_alloc | apply pw_below_drewN | apply below_drew1 | refine below_set ?_ GE614.out) | exact HB.out))) : w.heap.size ≤ gb628)); have n8_ := Aside0.mk ((by rw [hg]; exact (below_size (by repeat (first | (with_reducible first | exact HB.out | apply below_alloc | apply pw_below_drewN | apply below_drew1 | refine below_set ?_ GE614.out) | exact HB.out))) : w.heap.size ≤ gb628)); have n9_ := Aside0.mk ((by rw [hg]; exact Nat.ne_of_lt (blk_lt (g := gb614) (o := .cells #[.int .i64 t604, .int .i64 t605, .int .i64 t606, .int .i64 t607, .string t608, .int .i64 t609, .slice Ao13 t610.length co13] 33 (0, 0)) (by (with_reducible repeat (first | refine blk_drewN ?_ _ | refine blk_drew ?_ | refine blk_alloc ?_ _)); exact BK614.out)) : gb614 ≠ gb628)); have n10_ := Aside0.mk ((by rw [hg]; exact Nat.ne_of_gt (blk_lt (g := gb614) (o := .cells #[.int .i64 t604, .int .i64 t605, .int .i64 t606, .int .i64 t607, .string t608, .int .i64 t609, .slice Ao13 t610.length co13] 33 (0, 0)) (by (with_reducible repeat (first | refine blk_drewN ?_ _ | refine blk_drew ?_ | refine blk_alloc ?_ _)); exact BK614.out)) : gb628 ≠ gb614)); clear HO603; clear HO612; clear HO617; clear HO626; clear BK614; clear HB; have HO603 := n0_; have HO612 := n1_; have HO617 := n2_; have HO626 := n3_; have BK614 := n4_; have HB := n5_; have BK628 := n6_; have GW628 := n7_; have GE628 := n8_; have NB614_628 := n9_; have NB628_614 := n10_; clear n0_ n1_ n2_ n3_ n4_ n5_ n6_ n7_ n8_ n9_ n10_; clear hb hbox hg; have hnb18 := NB628_614.out; have hnc18 := NB614_628.out; have hcz19_0 : w17.cell? ⟨gb628, 0, none⟩ = some (.int .i64 0) := (blk_cell BK628.out 0).trans rfl; have hcz19_1 : w17.cell? ⟨gb628, 1, none⟩ = some (.int .i64 0) := (blk_cell BK628.out 1).trans rfl; have hcz19_2 : w17.cell? ⟨gb628, 2, none⟩ = some (.int .i64 0) := (blk_cell BK628.out 2).trans rfl; have hcz19_3 : w17.cell? ⟨gb628, 3, none⟩ = some (.int .i64 0) := (blk_cell BK628.out 3).trans rfl; have hcz19_4 : w17.cell? ⟨gb628, 4, none⟩ = some (.string (⟨#[]⟩ : ByteArray)) := (blk_cell BK628.out 4).trans rfl; have hcz19_5 : w17.cell? ⟨gb628, 5, none⟩ = some (.int .i64 0) := (blk_cell BK628.out 5).trans rfl; have hcz19_6 : w17.cell? ⟨gb628, 6, none⟩ = some (.slice none 0 0) := (blk_cell BK628.out 6).trans rfl; have hfz19_0 := blk_frozen BK628.out 0; have hfz19_1 := blk_frozen BK628.out 1; have hfz19_2 := blk_frozen BK628.out 2; have hfz19_3 := blk_frozen BK628.out 3; have hfz19_4 := blk_frozen BK628.out 4; have hfz19_5 := blk_frozen BK628.out 5; have hfz19_6 := blk_frozen BK628.out 6; obtain ⟨Ao20, co20, eo20⟩ := Kd.R_slice HO626.out; subst eo20))
  (try simp only [Act.put, List.setIfInBounds_toArray, List.set_cons_zero, List.set_cons_succ])
  go_cut [37] (fun v37 wc => ∃ (kq : Nat) (x37_6 : Bool), v37 = .bool x37_6 ∧ Aside0 (laws_FnExactGetMsg.j0 kq l0 t613 t615 t627 x37_6 t604 t605 t606 t607 t608 t609 t610 t618 t619 t620 t621 t622 t623 t624 = some r) ∧ Aside0 (kq ≤ k) ∧ Aside0 (Kd.R (Kd.int .u8) 5 wc w.heap.size (fun _ => True) (.slice Ao15 t615.length co15) t615) ∧ Aside0 (Kd.R Kd.string 9 wc w.heap.size (fun k_ => some k_ ≠ ((.slice Ao20 t624.length co20) : Value).ownBlock) (.slice Ao13 t610.length co13) t610) ∧ Aside0 (Kd.R Kd.string 9 wc w.heap.size (fun k_ => some k_ ≠ ((.slice Ao13 t610.length co13) : Value).ownBlock) (.slice Ao20 t624.length co20) t624) ∧ Aside0 (wc.heap[gb614]? = some (.cells #[.int .i64 t604, .int .i64 t605, .int .i64 t606, .int .i64 t607, .string t608, .int .i64 t609, (.slice Ao13 t610.length co13)] 33 (0, 0))) ∧ Aside0 (wc.heap[gb628]? = some (.cells #[.int .i64 t618, .int .i64 t619, .int .i64 t620, .int .i64 t621, .string t622, .int .i64 t623, (.slice Ao20 t624.length co20)] 33 (0, 0))) ∧ Aside0 (Below w.heap.size w wc))
  case first =>
   have H := HC7.out
   clear HC7
   replace H := Option.bind_eq_some_iff.mp H
   obtain ⟨t629, A210, H⟩ := H
   replace H : (if t629 = true then (laws_FnExactGetMsg.j0 k l0 t613 t615 t627 (t627 != t613) t604 t605 t606 t607 t608 t609 t610 t618 t619 t620 t621 t622 t623 t624) else (laws_FnExactGetMsg.j0 k l0 t613 t615 t627 true t604 t605 t606 t607 t608 t609 t610 t618 t619 t620 t621 t622 t623 t624)) = some r := H
   have A21 := Aside0.mk A210
   clear A210
   by_cases c22 : t629 = true
   ·subst c22
    have H1 : (laws_FnExactGetMsg.j0 k l0 t613 t615 t627 (t627 != t613) t604 t605 t606 t607 t608 t609 t610 t618 t619 t620 t621 t622 t623 t624) = some r := by rw [if_pos rfl] at H; exact H
    clear H
    have H := H1
    clear H1
    have H' := Aside0.mk H
    clear H
    have hnb23 := NB628_614.out
    have hnc23 := NB614_628.out
    have hcz24_0 : w17.cell? ⟨gb628, 0, none⟩ = some (.int .i64 0) := (blk_cell BK628.out 0).trans rfl
    have hcz24_1 : w17.cell? ⟨gb628, 1, none⟩ = some (.int .i64 0) := (blk_cell BK628.out 1).trans rfl
    have hcz24_2 : w17.cell? ⟨gb628, 2, none⟩ = some (.int .i64 0) := (blk_cell BK628.out 2).trans rfl
    have hcz24_3 : w17.cell? ⟨gb628, 3, none⟩ = some (.int .i64 0) := (blk_cell BK628.out 3).trans rfl
    have hcz24_4 : w17.cell? ⟨gb628, 4, none⟩ = some (.string (⟨#[]⟩ : ByteArray)) := (blk_cell BK628.out 4).trans rfl
    have hcz24_5 : w17.cell? ⟨gb628, 5, none⟩ = some (.int .i64 0) := (blk_cell BK628.out 5).trans rfl
    have hcz24_6 : w17.cell? ⟨gb628, 6, none⟩ = some (.slice none 0 0) := (blk_cell BK628.out 6).trans rfl
    have hfz24_0 := blk_frozen BK628.out 0
    have hfz24_1 := blk_frozen BK628.out 1
    have hfz24_2 := blk_frozen BK628.out 2
    have hfz24_3 := blk_frozen BK628.out 3
    have hfz24_4 := blk_frozen BK628.out 4
    have hfz24_5 := blk_frozen BK628.out 5
    have hfz24_6 := blk_frozen BK628.out 6
    have hcz25_0 : w17.cell? ⟨gb614, 0, none⟩ = some (.int .i64 t604) := (blk_cell BK614.out 0).trans rfl
    have hcz25_1 : w17.cell? ⟨gb614, 1, none⟩ = some (.int .i64 t605) := (blk_cell BK614.out 1).trans rfl
    have hcz25_2 : w17.cell? ⟨gb614, 2, none⟩ = some (.int .i64 t606) := (blk_cell BK614.out 2).trans rfl
    have hcz25_3 : w17.cell? ⟨gb614, 3, none⟩ = some (.int .i64 t607) := (blk_cell BK614.out 3).trans rfl
    have hcz25_4 : w17.cell? ⟨gb614, 4, none⟩ = some (.string t608) := (blk_cell BK614.out 4).trans rfl
    have hcz25_5 : w17.cell? ⟨gb614, 5, none⟩ = some (.int .i64 t609) := (blk_cell BK614.out 5).trans rfl
    have hcz25_6 : w17.cell? ⟨gb614, 6, none⟩ = some (.slice Ao13 t610.length co13) := (blk_cell BK614.out 6).trans rfl
    have hfz25_0 := blk_frozen BK614.out 0
    have hfz25_1 := blk_frozen BK614.out 1
    have hfz25_2 := blk_frozen BK614.out 2
    have hfz25_3 := blk_frozen BK614.out 3
    have hfz25_4 := blk_frozen BK614.out 4
    have hfz25_5 := blk_frozen BK614.out 5
    have hfz25_6 := blk_frozen BK614.out 6
    go_wp2_with (first | ((with_reducible refine gate_callee (f := 22) rfl ?_); refine goesL_ (some 31) rfl rfl Try.func22 (by kernel_rfl) rfl #[.agg #[.int .i64 t618, .int .i64 t619, .int .i64 t620, .int .i64 t621, .string t622, .int .i64 t623, .slice Ao20 t624.length co20], .agg #[.int .i64 t604, .int .i64 t605, .int .i64 t606, .int .i64 t607, .string t608, .int .i64 t609, .slice Ao13 t610.length co13]] rfl (by (try simp only [List.map_toArray, List.map_cons, List.map_nil]); first | done | rfl | (simp only [List.length_drop, List.length_take]; rfl)) ?_; (with_reducible refine (laws_eqMsg.calls k t618 t619 t620 t621 t622 t623 _ _ t624 t604 t605 t606 t607 t608 t609 _ _ t610 true _ ?side1 ?side2 ?side3 ?side4 A21.out).mono ?_); (case side1 => refine (Kd.R_reads' (e := 9) (base := w.heap.size) (ok := fun k_ => (True ∧ some k_ ≠ (.slice Ao13 t610.length co13 : Value).ownBlock)) (n := t624.length) (c := co20) ?_).2.2; exact (by (with_reducible repeat (first | apply Kd.R_alloc | apply Kd.R_drewN | apply Kd.R_drew)); exact (Kd.R_mono (Kd.R_far (p := ⟨gb628, 6, none⟩) (Kd.R_far (p := ⟨gb628, 5, none⟩) (Kd.R_far (p := ⟨gb628, 4, none⟩) (Kd.R_far (p := ⟨gb628, 3, none⟩) (Kd.R_far (p := ⟨gb628, 2, none⟩) (Kd.R_far (p := ⟨gb628, 1, none⟩) (Kd.R_far (p := ⟨gb628, 0, none⟩) (Kd.R_types HO626.out BK628.out (by decide)) (fun _ hk => hk.2) (.int .i64 t618)) (fun _ hk => hk.2) (.int .i64 t619)) (fun _ hk => hk.2) (.int .i64 t620)) (fun _ hk => hk.2) (.int .i64 t621)) (fun _ hk => hk.2) (.string t622)) (fun _ hk => hk.2) (.int .i64 t623)) (fun _ hk => hk.2) (.slice Ao20 t624.length co20)) (fun _ h_ => h_.1)))); (case side2 => exact (Kd.R_reads' HO626.out).2.1); (case side3 => refine (Kd.R_reads' (e := 9) (base := w.heap.size) (ok := fun k_ => (True ∧ some k_ ≠ (.slice Ao20 t624.length co20 : Value).ownBlock)) (n := t610.length) (c := co13) ?_).2.2; exact (by (with_reducible repeat (first | apply Kd.R_alloc | apply Kd.R_drewN | apply Kd.R_drew)); exact (Kd.R_mono (Kd.R_far (p := ⟨gb628, 6, none⟩) (Kd.R_far (p := ⟨gb628, 5, none⟩) (Kd.R_far (p := ⟨gb628, 4, none⟩) (Kd.R_far (p := ⟨gb628, 3, none⟩) (Kd.R_far (p := ⟨gb628, 2, none⟩) (Kd.R_far (p := ⟨gb628, 1, none⟩) (Kd.R_far (p := ⟨gb628, 0, none⟩) (Kd.R_types HO612.out BK628.out (by decide)) (fun _ hk => hk.2) (.int .i64 t618)) (fun _ hk => hk.2) (.int .i64 t619)) (fun _ hk => hk.2) (.int .i64 t620)) (fun _ hk => hk.2) (.int .i64 t621)) (fun _ hk => hk.2) (.string t622)) (fun _ hk => hk.2) (.int .i64 t623)) (fun _ hk => hk.2) (.slice Ao20 t624.length co20)) (fun _ h_ => h_.1)))); (case side4 => exact (Kd.R_reads' HO612.out).2.1); rintro e w26 ⟨rfl, hb⟩; refine ⟨_, rfl, ?_⟩; have n0_ := Aside0.mk (Kd.R_below (by (with_reducible repeat (first | apply Kd.R_alloc | apply Kd.R_drewN | apply Kd.R_drew)); exact (Kd.R_mono (Kd.R_far (p := ⟨gb628, 6, none⟩) (Kd.R_far (p := ⟨gb628, 5, none⟩) (Kd.R_far (p := ⟨gb628, 4, none⟩) (Kd.R_far (p := ⟨gb628, 3, none⟩) (Kd.R_far (p := ⟨gb628, 2, none⟩) (Kd.R_far (p := ⟨gb628, 1, none⟩) (Kd.R_far (p := ⟨gb628, 0, none⟩) (Kd.R_types HO603.out BK628.out (by decide)) (fun _ hk => hk.2) (.int .i64 t618)) (fun _ hk => hk.2) (.int .i64 t619)) (fun _ hk => hk.2) (.int .i64 t620)) (fun _ hk => hk.2) (.int .i64 t621)) (fun _ hk => hk.2) (.string t622)) (fun _ hk => hk.2) (.int .i64 t623)) (fun _ hk => hk.2) (.slice Ao20 t624.length co20)) (fun _ h_ => h_.1))) hb); have n1_ := Aside0.mk (Kd.R_below (by (with_reducible repeat (first | apply Kd.R_alloc | apply Kd.R_drewN | apply Kd.R_drew)); exact (Kd.R_mono (Kd.R_far (p := ⟨gb628, 6, none⟩) (Kd.R_far (p := ⟨gb628, 5, none⟩) (Kd.R_far (p := ⟨gb628, 4, none⟩) (Kd.R_far (p := ⟨gb628, 3, none⟩) (Kd.R_far (p := ⟨gb628, 2, none⟩) (Kd.R_far (p := ⟨gb628, 1, none⟩) (Kd.R_far (p := ⟨gb628, 0, none⟩) (Kd.R_types HO612.out BK628.out (by decide)) (fun _ hk => hk.2) (.int .i64 t618)) (fun _ hk => hk.2) (.int .i64 t619)) (fun _ hk => hk.2) (.int .i64 t620)) (fun _ hk => hk.2) (.int .i64 t621)) (fun _ hk => hk.2) (.string t622)) (fun _ hk => hk.2) (.int .i64 t623)) (fun _ hk => hk.2) (.slice Ao20 t624.length co20)) (fun _ h_ => h_.1))) hb); have n2_ := Aside0.mk (Kd.R_below (by (with_reducible repeat (first | apply Kd.R_alloc | apply Kd.R_drewN | apply Kd.R_drew)); exact (Kd.R_mono (Kd.R_far (p := ⟨gb628, 6, none⟩) (Kd.R_far (p := ⟨gb628, 5, none⟩) (Kd.R_far (p := ⟨gb628, 4, none⟩) (Kd.R_far (p := ⟨gb628, 3, none⟩) (Kd.R_far (p := ⟨gb628, 2, none⟩) (Kd.R_far (p := ⟨gb628, 1, none⟩) (Kd.R_far (p := ⟨gb628, 0, none⟩) (Kd.R_types HO617.out BK628.out (by decide)) (fun _ hk => hk.2) (.int .i64 t618)) (fun _ hk => hk.2) (.int .i64 t619)) (fun _ hk => hk.2) (.int .i64 t620)) (fun _ hk => hk.2) (.int .i64 t621)) (fun _ hk => hk.2) (.string t622)) (fun _ hk => hk.2) (.int .i64 t623)) (fun _ hk => hk.2) (.slice Ao20 t624.length co20)) (fun _ h_ => h_.1))) hb); have n3_ := Aside0.mk (Kd.R_below (by (with_reducible repeat (first | apply Kd.R_alloc | apply Kd.R_drewN | apply Kd.R_drew)); exact (Kd.R_mono (Kd.R_far (p := ⟨gb628, 6, none⟩) (Kd.R_far (p := ⟨gb628, 5, none⟩) (Kd.R_far (p := ⟨gb628, 4, none⟩) (Kd.R_far (p := ⟨gb628, 3, none⟩) (Kd.R_far (p := ⟨gb628, 2, none⟩) (Kd.R_far (p := ⟨gb628, 1, none⟩) (Kd.R_far (p := ⟨gb628, 0, none⟩) (Kd.R_types HO626.out BK628.out (by decide)) (fun _ hk => hk.2) (.int .i64 t618)) (fun _ hk => hk.2) (.int .i64 t619)) (fun _ hk => hk.2) (.int .i64 t620)) (fun _ hk => hk.2) (.int .i64 t621)) (fun _ hk => hk.2) (.string t622)) (fun _ hk => hk.2) (.int .i64 t623)) (fun _ hk => hk.2) (.slice Ao20 t624.length co20)) (fun _ h_ => h_.1))) hb); have n4_ := Aside0.mk (blk_below (g := gb614) (o := .cells #[.int .i64 t604, .int .i64 t605, .int .i64 t606, .int .i64 t607, .string t608, .int .i64 t609, .slice Ao13 t610.length co13] 33 (0, 0)) (by (with_reducible repeat (first | refine blk_drewN ?_ _ | refine blk_drew ?_ | refine blk_alloc ?_ _)); refine blk_far ?_ NB614_628.out _; (with_reducible repeat (first | refine blk_drewN ?_ _ | refine blk_drew ?_ | refine blk_alloc ?_ _)); refine blk_far ?_ NB614_628.out _; (with_reducible repeat (first | refine blk_drewN ?_ _ | refine blk_drew ?_ | refine blk_alloc ?_ _)); refine blk_far ?_ NB614_628.out _; (with_reducible repeat (first | refine blk_drewN ?_ _ | refine blk_drew ?_ | refine blk_alloc ?_ _)); refine blk_far ?_ NB614_628.out _; (with_reducible repeat (first | refine blk_drewN ?_ _ | refine blk_drew ?_ | refine blk_alloc ?_ _)); refine blk_far ?_ NB614_628.out _; (with_reducible repeat (first | refine blk_drewN ?_ _ | refine blk_drew ?_ | refine blk_alloc ?_ _)); refine blk_far ?_ NB614_628.out _; (with_reducible repeat (first | refine blk_drewN ?_ _ | refine blk_drew ?_ | refine blk_alloc ?_ _)); refine blk_far ?_ NB614_628.out _; (with_reducible repeat (first | refine blk_drewN ?_ _ | refine blk_drew ?_ | refine blk_alloc ?_ _)); exact BK614.out) hb); have n5_ := Aside0.mk (blk_below (g := gb628) (o := .cells #[.int .i64 t618, .int .i64 t619, .int .i64 t620, .int .i64 t621, .string t622, .int .i64 t623, .slice Ao20 t624.length co20] 33 (0, 0)) (by (with_reducible repeat (first | refine blk_drewN ?_ _ | refine blk_drew ?_ | refine blk_alloc ?_ _)); refine blk_put (cs := #[.int .i64 t618, .int .i64 t619, .int .i64 t620, .int .i64 t621, .string t622, .int .i64 t623, .slice none 0 0]) ?_ 6 _ rfl; (with_reducible repeat (first | refine blk_drewN ?_ _ | refine blk_drew ?_ | refine blk_alloc ?_ _)); refine blk_put (cs := #[.int .i64 t618, .int .i64 t619, .int .i64 t620, .int .i64 t621, .string t622, .int .i64 0, .slice none 0 0]) ?_ 5 _ rfl; (with_reducible repeat (first | refine blk_drewN ?_ _ | refine blk_drew ?_ | refine blk_alloc ?_ _)); refine blk_put (cs := #[.int .i64 t618, .int .i64 t619, .int .i64 t620, .int .i64 t621, .string (⟨#[]⟩ : ByteArray), .int .i64 0, .slice none 0 0]) ?_ 4 _ rfl; (with_reducible repeat (first | refine blk_drewN ?_ _ | refine blk_drew ?_ | refine blk_alloc ?_ _)); refine blk_put (cs := #[.int .i64 t618, .int .i64 t619, .int .i64 t620, .int .i64 0, .string (⟨#[]⟩ : ByteArray), .int .i64 0, .slice none 0 0]) ?_ 3 _ rfl; (with_reducible repeat (first | refine blk_drewN ?_ _ | refine blk_drew ?_ | refine blk_alloc ?_ _)); refine blk_put (cs := #[.int .i64 t618, .int .i64 t619, .int .i64 0, .int .i64 0, .string (⟨#[]⟩ : ByteArray), .int .i64 0, .slice none 0 0]) ?_ 2 _ rfl; (with_reducible repeat (first | refine blk_drewN ?_ _ | refine blk_drew ?_ | refine blk_alloc ?_ _)); refine blk_put (cs := #[.int .i64 t618, .int .i64 0, .int .i64 0, .int .i64 0, .string (⟨#[]⟩ : ByteArray), .int .i64 0, .slice none 0 0]) ?_ 1 _ rfl; (with_reducible repeat (first | refine blk_drewN ?_ _ | refine blk_drew ?_ | refine blk_alloc ?_ _)); refine blk_put (cs := #[.int .i64 0, .int .i64 0, .int .i64 0, .int .i64 0, .string (⟨#[]⟩ : ByteArray), .int .i64 0, .slice none 0 0]) ?_ 0 _ rfl; (with_reducible repeat (first | refine blk_drewN ?_ _ | refine blk_drew ?_ | refine blk_alloc ?_ _)); exact BK628.out) hb); have n6_ := Aside0.mk (below_step (by repeat (first | (with_reducible first | exact HB.out | apply below_alloc | apply pw_below_drewN | apply below_drew1 | refine below_set ?_ GE614.out | refine below_set ?_ GE628.out) | exact HB.out)) hb); clear HO603; clear HO612; clear HO617; clear HO626; clear BK614; clear BK628; clear HB; have HO603 := n0_; have HO612 := n1_; have HO617 := n2_; have HO626 := n3_; have BK614 := n4_; have BK628 := n5_; have HB := n6_; clear n0_ n1_ n2_ n3_ n4_ n5_ n6_; (try clear hb); (try clear hb2); (try clear hk); (try clear hi)))
    go_meet
    case rel => exact ⟨_, ((t627 != t613)), (by first | rfl | (simp; done) | (simp [*]; done)), H', ⟨by first | omega | exact Nat.le_refl _⟩, ⟨by (with_reducible repeat (first | apply Kd.R_alloc | apply Kd.R_drewN | apply Kd.R_drew)); exact Kd.R_mono HO617.out (fun _ hk => trivial)⟩, ⟨by (with_reducible repeat (first | apply Kd.R_alloc | apply Kd.R_drewN | apply Kd.R_drew)); exact Kd.R_mono HO612.out (fun _ hk => hk.2)⟩, ⟨by (with_reducible repeat (first | apply Kd.R_alloc | apply Kd.R_drewN | apply Kd.R_drew)); exact Kd.R_mono HO626.out (fun _ hk => hk.2)⟩, ⟨by (with_reducible repeat (first | refine blk_drewN ?_ _ | refine blk_drew ?_ | refine blk_alloc ?_ _)); exact BK614.out⟩, ⟨by (with_reducible repeat (first | refine blk_drewN ?_ _ | refine blk_drew ?_ | refine blk_alloc ?_ _)); exact BK628.out⟩, ⟨by repeat (first | (with_reducible first | exact HB.out | apply below_alloc | apply pw_below_drewN | apply below_drew1 | refine below_set ?_ GE614.out | refine below_set ?_ GE628.out) | exact HB.out)⟩⟩
   ·replace c22 := Bool.eq_false_iff.mpr c22
    subst c22
    have H1 : (laws_FnExactGetMsg.j0 k l0 t613 t615 t627 true t604 t605 t606 t607 t608 t609 t610 t618 t619 t620 t621 t622 t623 t624) = some r := by rw [if_neg (show ¬ (false = true) by decide)] at H; exact H
    clear H
    have H := H1
    clear H1
    have H' := Aside0.mk H
    clear H
    have hnb27 := NB628_614.out
    have hnc27 := NB614_628.out
    have hcz28_0 : w17.cell? ⟨gb628, 0, none⟩ = some (.int .i64 0) := (blk_cell BK628.out 0).trans rfl
    have hcz28_1 : w17.cell? ⟨gb628, 1, none⟩ = some (.int .i64 0) := (blk_cell BK628.out 1).trans rfl
    have hcz28_2 : w17.cell? ⟨gb628, 2, none⟩ = some (.int .i64 0) := (blk_cell BK628.out 2).trans rfl
    have hcz28_3 : w17.cell? ⟨gb628, 3, none⟩ = some (.int .i64 0) := (blk_cell BK628.out 3).trans rfl
    have hcz28_4 : w17.cell? ⟨gb628, 4, none⟩ = some (.string (⟨#[]⟩ : ByteArray)) := (blk_cell BK628.out 4).trans rfl
    have hcz28_5 : w17.cell? ⟨gb628, 5, none⟩ = some (.int .i64 0) := (blk_cell BK628.out 5).trans rfl
    have hcz28_6 : w17.cell? ⟨gb628, 6, none⟩ = some (.slice none 0 0) := (blk_cell BK628.out 6).trans rfl
    have hfz28_0 := blk_frozen BK628.out 0
    have hfz28_1 := blk_frozen BK628.out 1
    have hfz28_2 := blk_frozen BK628.out 2
    have hfz28_3 := blk_frozen BK628.out 3
    have hfz28_4 := blk_frozen BK628.out 4
    have hfz28_5 := blk_frozen BK628.out 5
    have hfz28_6 := blk_frozen BK628.out 6
    have hcz29_0 : w17.cell? ⟨gb614, 0, none⟩ = some (.int .i64 t604) := (blk_cell BK614.out 0).trans rfl
    have hcz29_1 : w17.cell? ⟨gb614, 1, none⟩ = some (.int .i64 t605) := (blk_cell BK614.out 1).trans rfl
    have hcz29_2 : w17.cell? ⟨gb614, 2, none⟩ = some (.int .i64 t606) := (blk_cell BK614.out 2).trans rfl
    have hcz29_3 : w17.cell? ⟨gb614, 3, none⟩ = some (.int .i64 t607) := (blk_cell BK614.out 3).trans rfl
    have hcz29_4 : w17.cell? ⟨gb614, 4, none⟩ = some (.string t608) := (blk_cell BK614.out 4).trans rfl
    have hcz29_5 : w17.cell? ⟨gb614, 5, none⟩ = some (.int .i64 t609) := (blk_cell BK614.out 5).trans rfl
    have hcz29_6 : w17.cell? ⟨gb614, 6, none⟩ = some (.slice Ao13 t610.length co13) := (blk_cell BK614.out 6).trans rfl
    have hfz29_0 := blk_frozen BK614.out 0
    have hfz29_1 := blk_frozen BK614.out 1
    have hfz29_2 := blk_frozen BK614.out 2
    have hfz29_3 := blk_frozen BK614.out 3
    have hfz29_4 := blk_frozen BK614.out 4
    have hfz29_5 := blk_frozen BK614.out 5
    have hfz29_6 := blk_frozen BK614.out 6
    go_wp2_with (first | ((with_reducible refine gate_callee (f := 22) rfl ?_); refine goesL_ (some 31) rfl rfl Try.func22 (by kernel_rfl) rfl #[.agg #[.int .i64 t618, .int .i64 t619, .int .i64 t620, .int .i64 t621, .string t622, .int .i64 t623, .slice Ao20 t624.length co20], .agg #[.int .i64 t604, .int .i64 t605, .int .i64 t606, .int .i64 t607, .string t608, .int .i64 t609, .slice Ao13 t610.length co13]] rfl (by (try simp only [List.map_toArray, List.map_cons, List.map_nil]); first | done | rfl | (simp only [List.length_drop, List.length_take]; rfl)) ?_; (with_reducible refine (laws_eqMsg.calls k t618 t619 t620 t621 t622 t623 _ _ t624 t604 t605 t606 t607 t608 t609 _ _ t610 false _ ?side1 ?side2 ?side3 ?side4 A21.out).mono ?_); (case side1 => refine (Kd.R_reads' (e := 9) (base := w.heap.size) (ok := fun k_ => (True ∧ some k_ ≠ (.slice Ao13 t610.length co13 : Value).ownBlock)) (n := t624.length) (c := co20) ?_).2.2; exact (by (with_reducible repeat (first | apply Kd.R_alloc | apply Kd.R_drewN | apply Kd.R_drew)); exact (Kd.R_mono (Kd.R_far (p := ⟨gb628, 6, none⟩) (Kd.R_far (p := ⟨gb628, 5, none⟩) (Kd.R_far (p := ⟨gb628, 4, none⟩) (Kd.R_far (p := ⟨gb628, 3, none⟩) (Kd.R_far (p := ⟨gb628, 2, none⟩) (Kd.R_far (p := ⟨gb628, 1, none⟩) (Kd.R_far (p := ⟨gb628, 0, none⟩) (Kd.R_types HO626.out BK628.out (by decide)) (fun _ hk => hk.2) (.int .i64 t618)) (fun _ hk => hk.2) (.int .i64 t619)) (fun _ hk => hk.2) (.int .i64 t620)) (fun _ hk => hk.2) (.int .i64 t621)) (fun _ hk => hk.2) (.string t622)) (fun _ hk => hk.2) (.int .i64 t623)) (fun _ hk => hk.2) (.slice Ao20 t624.length co20)) (fun _ h_ => h_.1)))); (case side2 => exact (Kd.R_reads' HO626.out).2.1); (case side3 => refine (Kd.R_reads' (e := 9) (base := w.heap.size) (ok := fun k_ => (True ∧ some k_ ≠ (.slice Ao20 t624.length co20 : Value).ownBlock)) (n := t610.length) (c := co13) ?_).2.2; exact (by (with_reducible repeat (first | apply Kd.R_alloc | apply Kd.R_drewN | apply Kd.R_drew)); exact (Kd.R_mono (Kd.R_far (p := ⟨gb628, 6, none⟩) (Kd.R_far (p := ⟨gb628, 5, none⟩) (Kd.R_far (p := ⟨gb628, 4, none⟩) (Kd.R_far (p := ⟨gb628, 3, none⟩) (Kd.R_far (p := ⟨gb628, 2, none⟩) (Kd.R_far (p := ⟨gb628, 1, none⟩) (Kd.R_far (p := ⟨gb628, 0, none⟩) (Kd.R_types HO612.out BK628.out (by decide)) (fun _ hk => hk.2) (.int .i64 t618)) (fun _ hk => hk.2) (.int .i64 t619)) (fun _ hk => hk.2) (.int .i64 t620)) (fun _ hk => hk.2) (.int .i64 t621)) (fun _ hk => hk.2) (.string t622)) (fun _ hk => hk.2) (.int .i64 t623)) (fun _ hk => hk.2) (.slice Ao20 t624.length co20)) (fun _ h_ => h_.1)))); (case side4 => exact (Kd.R_reads' HO612.out).2.1); rintro e w30 ⟨rfl, hb⟩; refine ⟨_, rfl, ?_⟩; have n0_ := Aside0.mk (Kd.R_below (by (with_reducible repeat (first | apply Kd.R_alloc | apply Kd.R_drewN | apply Kd.R_drew)); exact (Kd.R_mono (Kd.R_far (p := ⟨gb628, 6, none⟩) (Kd.R_far (p := ⟨gb628, 5, none⟩) (Kd.R_far (p := ⟨gb628, 4, none⟩) (Kd.R_far (p := ⟨gb628, 3, none⟩) (Kd.R_far (p := ⟨gb628, 2, none⟩) (Kd.R_far (p := ⟨gb628, 1, none⟩) (Kd.R_far (p := ⟨gb628, 0, none⟩) (Kd.R_types HO603.out BK628.out (by decide)) (fun _ hk => hk.2) (.int .i64 t618)) (fun _ hk => hk.2) (.int .i64 t619)) (fun _ hk => hk.2) (.int .i64 t620)) (fun _ hk => hk.2) (.int .i64 t621)) (fun _ hk => hk.2) (.string t622)) (fun _ hk => hk.2) (.int .i64 t623)) (fun _ hk => hk.2) (.slice Ao20 t624.length co20)) (fun _ h_ => h_.1))) hb); have n1_ := Aside0.mk (Kd.R_below (by (with_reducible repeat (first | apply Kd.R_alloc | apply Kd.R_drewN | apply Kd.R_drew)); exact (Kd.R_mono (Kd.R_far (p := ⟨gb628, 6, none⟩) (Kd.R_far (p := ⟨gb628, 5, none⟩) (Kd.R_far (p := ⟨gb628, 4, none⟩) (Kd.R_far (p := ⟨gb628, 3, none⟩) (Kd.R_far (p := ⟨gb628, 2, none⟩) (Kd.R_far (p := ⟨gb628, 1, none⟩) (Kd.R_far (p := ⟨gb628, 0, none⟩) (Kd.R_types HO612.out BK628.out (by decide)) (fun _ hk => hk.2) (.int .i64 t618)) (fun _ hk => hk.2) (.int .i64 t619)) (fun _ hk => hk.2) (.int .i64 t620)) (fun _ hk => hk.2) (.int .i64 t621)) (fun _ hk => hk.2) (.string t622)) (fun _ hk => hk.2) (.int .i64 t623)) (fun _ hk => hk.2) (.slice Ao20 t624.length co20)) (fun _ h_ => h_.1))) hb); have n2_ := Aside0.mk (Kd.R_below (by (with_reducible repeat (first | apply Kd.R_alloc | apply Kd.R_drewN | apply Kd.R_drew)); exact (Kd.R_mono (Kd.R_far (p := ⟨gb628, 6, none⟩) (Kd.R_far (p := ⟨gb628, 5, none⟩) (Kd.R_far (p := ⟨gb628, 4, none⟩) (Kd.R_far (p := ⟨gb628, 3, none⟩) (Kd.R_far (p := ⟨gb628, 2, none⟩) (Kd.R_far (p := ⟨gb628, 1, none⟩) (Kd.R_far (p := ⟨gb628, 0, none⟩) (Kd.R_types HO617.out BK628.out (by decide)) (fun _ hk => hk.2) (.int .i64 t618)) (fun _ hk => hk.2) (.int .i64 t619)) (fun _ hk => hk.2) (.int .i64 t620)) (fun _ hk => hk.2) (.int .i64 t621)) (fun _ hk => hk.2) (.string t622)) (fun _ hk => hk.2) (.int .i64 t623)) (fun _ hk => hk.2) (.slice Ao20 t624.length co20)) (fun _ h_ => h_.1))) hb); have n3_ := Aside0.mk (Kd.R_below (by (with_reducible repeat (first | apply Kd.R_alloc | apply Kd.R_drewN | apply Kd.R_drew)); exact (Kd.R_mono (Kd.R_far (p := ⟨gb628, 6, none⟩) (Kd.R_far (p := ⟨gb628, 5, none⟩) (Kd.R_far (p := ⟨gb628, 4, none⟩) (Kd.R_far (p := ⟨gb628, 3, none⟩) (Kd.R_far (p := ⟨gb628, 2, none⟩) (Kd.R_far (p := ⟨gb628, 1, none⟩) (Kd.R_far (p := ⟨gb628, 0, none⟩) (Kd.R_types HO626.out BK628.out (by decide)) (fun _ hk => hk.2) (.int .i64 t618)) (fun _ hk => hk.2) (.int .i64 t619)) (fun _ hk => hk.2) (.int .i64 t620)) (fun _ hk => hk.2) (.int .i64 t621)) (fun _ hk => hk.2) (.string t622)) (fun _ hk => hk.2) (.int .i64 t623)) (fun _ hk => hk.2) (.slice Ao20 t624.length co20)) (fun _ h_ => h_.1))) hb); have n4_ := Aside0.mk (blk_below (g := gb614) (o := .cells #[.int .i64 t604, .int .i64 t605, .int .i64 t606, .int .i64 t607, .string t608, .int .i64 t609, .slice Ao13 t610.length co13] 33 (0, 0)) (by (with_reducible repeat (first | refine blk_drewN ?_ _ | refine blk_drew ?_ | refine blk_alloc ?_ _)); refine blk_far ?_ NB614_628.out _; (with_reducible repeat (first | refine blk_drewN ?_ _ | refine blk_drew ?_ | refine blk_alloc ?_ _)); refine blk_far ?_ NB614_628.out _; (with_reducible repeat (first | refine blk_drewN ?_ _ | refine blk_drew ?_ | refine blk_alloc ?_ _)); refine blk_far ?_ NB614_628.out _; (with_reducible repeat (first | refine blk_drewN ?_ _ | refine blk_drew ?_ | refine blk_alloc ?_ _)); refine blk_far ?_ NB614_628.out _; (with_reducible repeat (first | refine blk_drewN ?_ _ | refine blk_drew ?_ | refine blk_alloc ?_ _)); refine blk_far ?_ NB614_628.out _; (with_reducible repeat (first | refine blk_drewN ?_ _ | refine blk_drew ?_ | refine blk_alloc ?_ _)); refine blk_far ?_ NB614_628.out _; (with_reducible repeat (first | refine blk_drewN ?_ _ | refine blk_drew ?_ | refine blk_alloc ?_ _)); refine blk_far ?_ NB614_628.out _; (with_reducible repeat (first | refine blk_drewN ?_ _ | refine blk_drew ?_ | refine blk_alloc ?_ _)); exact BK614.out) hb); have n5_ := Aside0.mk (blk_below (g := gb628) (o := .cells #[.int .i64 t618, .int .i64 t619, .int .i64 t620, .int .i64 t621, .string t622, .int .i64 t623, .slice Ao20 t624.length co20] 33 (0, 0)) (by (with_reducible repeat (first | refine blk_drewN ?_ _ | refine blk_drew ?_ | refine blk_alloc ?_ _)); refine blk_put (cs := #[.int .i64 t618, .int .i64 t619, .int .i64 t620, .int .i64 t621, .string t622, .int .i64 t623, .slice none 0 0]) ?_ 6 _ rfl; (with_reducible repeat (first | refine blk_drewN ?_ _ | refine blk_drew ?_ | refine blk_alloc ?_ _)); refine blk_put (cs := #[.int .i64 t618, .int .i64 t619, .int .i64 t620, .int .i64 t621, .string t622, .int .i64 0, .slice none 0 0]) ?_ 5 _ rfl; (with_reducible repeat (first | refine blk_drewN ?_ _ | refine blk_drew ?_ | refine blk_alloc ?_ _)); refine blk_put (cs := #[.int .i64 t618, .int .i64 t619, .int .i64 t620, .int .i64 t621, .string (⟨#[]⟩ : ByteArray), .int .i64 0, .slice none 0 0]) ?_ 4 _ rfl; (with_reducible repeat (first | refine blk_drewN ?_ _ | refine blk_drew ?_ | refine blk_alloc ?_ _)); refine blk_put (cs := #[.int .i64 t618, .int .i64 t619, .int .i64 t620, .int .i64 0, .string (⟨#[]⟩ : ByteArray), .int .i64 0, .slice none 0 0]) ?_ 3 _ rfl; (with_reducible repeat (first | refine blk_drewN ?_ _ | refine blk_drew ?_ | refine blk_alloc ?_ _)); refine blk_put (cs := #[.int .i64 t618, .int .i64 t619, .int .i64 0, .int .i64 0, .string (⟨#[]⟩ : ByteArray), .int .i64 0, .slice none 0 0]) ?_ 2 _ rfl; (with_reducible repeat (first | refine blk_drewN ?_ _ | refine blk_drew ?_ | refine blk_alloc ?_ _)); refine blk_put (cs := #[.int .i64 t618, .int .i64 0, .int .i64 0, .int .i64 0, .string (⟨#[]⟩ : ByteArray), .int .i64 0, .slice none 0 0]) ?_ 1 _ rfl; (with_reducible repeat (first | refine blk_drewN ?_ _ | refine blk_drew ?_ | refine blk_alloc ?_ _)); refine blk_put (cs := #[.int .i64 0, .int .i64 0, .int .i64 0, .int .i64 0, .string (⟨#[]⟩ : ByteArray), .int .i64 0, .slice none 0 0]) ?_ 0 _ rfl; (with_reducible repeat (first | refine blk_drewN ?_ _ | refine blk_drew ?_ | refine blk_alloc ?_ _)); exact BK628.out) hb); have n6_ := Aside0.mk (below_step (by repeat (first | (with_reducible first | exact HB.out | apply below_alloc | apply pw_below_drewN | apply below_drew1 | refine below_set ?_ GE614.out | refine below_set ?_ GE628.out) | exact HB.out)) hb); clear HO603; clear HO612; clear HO617; clear HO626; clear BK614; clear BK628; clear HB; have HO603 := n0_; have HO612 := n1_; have HO617 := n2_; have HO626 := n3_; have BK614 := n4_; have BK628 := n5_; have HB := n6_; clear n0_ n1_ n2_ n3_ n4_ n5_ n6_; (try clear hb); (try clear hb2); (try clear hk); (try clear hi)))
    go_meet
    case rel => exact ⟨_, (true), (by first | rfl | (simp; done) | (simp [*]; done)), H', ⟨by first | omega | exact Nat.le_refl _⟩, ⟨by (with_reducible repeat (first | apply Kd.R_alloc | apply Kd.R_drewN | apply Kd.R_drew)); exact Kd.R_mono HO617.out (fun _ hk => trivial)⟩, ⟨by (with_reducible repeat (first | apply Kd.R_alloc | apply Kd.R_drewN | apply Kd.R_drew)); exact Kd.R_mono HO612.out (fun _ hk => hk.2)⟩, ⟨by (with_reducible repeat (first | apply Kd.R_alloc | apply Kd.R_drewN | apply Kd.R_drew)); exact Kd.R_mono HO626.out (fun _ hk => hk.2)⟩, ⟨by (with_reducible repeat (first | refine blk_drewN ?_ _ | refine blk_drew ?_ | refine blk_alloc ?_ _)); exact BK614.out⟩, ⟨by (with_reducible repeat (first | refine blk_drewN ?_ _ | refine blk_drew ?_ | refine blk_alloc ?_ _)); exact BK628.out⟩, ⟨by repeat (first | (with_reducible first | exact HB.out | apply below_alloc | apply pw_below_drewN | apply below_drew1 | refine below_set ?_ GE614.out | refine below_set ?_ GE628.out) | exact HB.out)⟩⟩
  case rest =>
   clear HC7
   try clear c1
   try clear c2
   try clear c2b0
   try clear c2b1
   try clear p2
   try clear c5
   try clear c18
   try clear c22
   try clear c23
   try clear c26
   try clear c27
   try clear c28
   try clear hcz12_0
   try clear hcz12_1
   try clear hcz12_2
   try clear hcz12_3
   try clear hcz12_4
   try clear hcz12_5
   try clear hcz12_6
   try clear hcz19_0
   try clear hcz19_1
   try clear hcz19_2
   try clear hcz19_3
   try clear hcz19_4
   try clear hcz19_5
   try clear hcz19_6
   try clear hcz24_0
   try clear hcz24_1
   try clear hcz24_2
   try clear hcz24_3
   try clear hcz24_4
   try clear hcz24_5
   try clear hcz24_6
   try clear hcz25_0
   try clear hcz25_1
   try clear hcz25_2
   try clear hcz25_3
   try clear hcz25_4
   try clear hcz25_5
   try clear hcz25_6
   try clear hcz28_0
   try clear hcz28_1
   try clear hcz28_2
   try clear hcz28_3
   try clear hcz28_4
   try clear hcz28_5
   try clear hcz28_6
   try clear hcz29_0
   try clear hcz29_1
   try clear hcz29_2
   try clear hcz29_3
   try clear hcz29_4
   try clear hcz29_5
   try clear hcz29_6
   try clear hfz12_0
   try clear hfz12_1
   try clear hfz12_2
   try clear hfz12_3
   try clear hfz12_4
   try clear hfz12_5
   try clear hfz12_6
   try clear hfz19_0
   try clear hfz19_1
   try clear hfz19_2
   try clear hfz19_3
   try clear hfz19_4
   try clear hfz19_5
   try clear hfz19_6
   try clear hfz24_0
   try clear hfz24_1
   try clear hfz24_2
   try clear hfz24_3
   try clear hfz24_4
   try clear hfz24_5
   try clear hfz24_6
   try clear hfz25_0
   try clear hfz25_1
   try clear hfz25_2
   try clear hfz25_3
   try clear hfz25_4
   try clear hfz25_5
   try clear hfz25_6
   try clear hfz28_0
   try clear hfz28_1
   try clear hfz28_2
   try clear hfz28_3
   try clear hfz28_4
   try clear hfz28_5
   try clear hfz28_6
   try clear hfz29_0
   try clear hfz29_1
   try clear hfz29_2
   try clear hfz29_3
   try clear hfz29_4
   try clear hfz29_5
   try clear hfz29_6
   obtain ⟨kq, x37_6, rfl, HA, HJ6, HO_5, HO_615006, HO_629006, BK614, BK628, HB⟩ := hcut
   cases kq with
   | zero => exact absurd HA.out (by simp [laws_FnExactGetMsg.j0])
   | succ kj6 =>
    have H := HA.out
    clear HA
    simp only [laws_FnExactGetMsg.j0] at H
    by_cases c31 : x37_6 = true
    ·subst c31
     have H1 : (none) = some r := by rw [if_pos rfl] at H; exact H
     clear H
     have H := H1
     clear H1
     exact absurd H (by simp)
    ·replace c31 := Bool.eq_false_iff.mpr c31
     subst c31
     have H1 : ((laws_toByteS.f kj6 l0).bind fun t630 => ((laws_eqByteS.f kj6 t615 t630).bind fun t633 => (if t633 = true then ((laws_markByteS.f kj6 t615 1).bind fun bt634 => (if bt634.1 < 0 then (laws_FnExactGetMsg.j1 kj6 l0 t613 true t604 t605 t606 t607 t608 t609 t610 t618 t619 t620 t621 t622 t623 t624) else ((laws_eqMsg.f kj6 t618 t619 t620 t621 t622 t623 t624 t604 t605 t606 t607 t608 t609 t610).bind fun t636 => (if t636 = true then (laws_FnExactGetMsg.j1 kj6 l0 t613 (t627 != t613) t604 t605 t606 t607 t608 t609 t610 t618 t619 t620 t621 t622 t623 t624) else (laws_FnExactGetMsg.j1 kj6 l0 t613 true t604 t605 t606 t607 t608 t609 t610 t618 t619 t620 t621 t622 t623 t624))))) else (none)))) = some r := by rw [if_neg (show ¬ (false = true) by decide)] at H; exact H
     clear H
     have H := H1
     clear H1
     replace H := Option.bind_eq_some_iff.mp H
     obtain ⟨t630, A320, H⟩ := H
     replace H : ((laws_eqByteS.f kj6 t615 t630).bind fun t633 => (if t633 = true then ((laws_markByteS.f kj6 t615 1).bind fun bt634 => (if bt634.1 < 0 then (laws_FnExactGetMsg.j1 kj6 l0 t613 true t604 t605 t606 t607 t608 t609 t610 t618 t619 t620 t621 t622 t623 t624) else ((laws_eqMsg.f kj6 t618 t619 t620 t621 t622 t623 t624 t604 t605 t606 t607 t608 t609 t610).bind fun t636 => (if t636 = true then (laws_FnExactGetMsg.j1 kj6 l0 t613 (t627 != t613) t604 t605 t606 t607 t608 t609 t610 t618 t619 t620 t621 t622 t623 t624) else (laws_FnExactGetMsg.j1 kj6 l0 t613 true t604 t605 t606 t607 t608 t609 t610 t618 t619 t620 t621 t622 t623 t624))))) else (none))) = some r := H
     have A32 := Aside0.mk A320
     clear A320
     replace H := Option.bind_eq_some_iff.mp H
     obtain ⟨t633, A330, H⟩ := H
     replace H : (if t633 = true then ((laws_markByteS.f kj6 t615 1).bind fun bt634 => (if bt634.1 < 0 then (laws_FnExactGetMsg.j1 kj6 l0 t613 true t604 t605 t606 t607 t608 t609 t610 t618 t619 t620 t621 t622 t623 t624) else ((laws_eqMsg.f kj6 t618 t619 t620 t621 t622 t623 t624 t604 t605 t606 t607 t608 t609 t610).bind fun t636 => (if t636 = true then (laws_FnExactGetMsg.j1 kj6 l0 t613 (t627 != t613) t604 t605 t606 t607 t608 t609 t610 t618 t619 t620 t621 t622 t623 t624) else (laws_FnExactGetMsg.j1 kj6 l0 t613 true t604 t605 t606 t607 t608 t609 t610 t618 t619 t620 t621 t622 t623 t624))))) else (none)) = some r := H
     have A33 := Aside0.mk A330
     clear A330
     by_cases c34 : t633 = true
     ·subst c34
      have H1 : ((laws_markByteS.f kj6 t615 1).bind fun bt634 => (if bt634.1 < 0 then (laws_FnExactGetMsg.j1 kj6 l0 t613 true t604 t605 t606 t607 t608 t609 t610 t618 t619 t620 t621 t622 t623 t624) else ((laws_eqMsg.f kj6 t618 t619 t620 t621 t622 t623 t624 t604 t605 t606 t607 t608 t609 t610).bind fun t636 => (if t636 = true then (laws_FnExactGetMsg.j1 kj6 l0 t613 (t627 != t613) t604 t605 t606 t607 t608 t609 t610 t618 t619 t620 t621 t622 t623 t624) else (laws_FnExactGetMsg.j1 kj6 l0 t613 true t604 t605 t606 t607 t608 t609 t610 t618 t619 t620 t621 t622 t623 t624))))) = some r := by rw [if_pos rfl] at H; exact H
      clear H
      have H := H1
      clear H1
      replace H := Option.bind_eq_some_iff.mp H
      obtain ⟨⟨t634, t635⟩, A350, H⟩ := H
      replace H : (if t634 < 0 then (laws_FnExactGetMsg.j1 kj6 l0 t613 true t604 t605 t606 t607 t608 t609 t610 t618 t619 t620 t621 t622 t623 t624) else ((laws_eqMsg.f kj6 t618 t619 t620 t621 t622 t623 t624 t604 t605 t606 t607 t608 t609 t610).bind fun t636 => (if t636 = true then (laws_FnExactGetMsg.j1 kj6 l0 t613 (t627 != t613) t604 t605 t606 t607 t608 t609 t610 t618 t619 t620 t621 t622 t623 t624) else (laws_FnExactGetMsg.j1 kj6 l0 t613 true t604 t605 t606 t607 t608 t609 t610 t618 t619 t620 t621 t622 t623 t624)))) = some r := H
      have A35 := Aside0.mk A350
      clear A350
      have HC36 := Aside0.mk H
      clear H
      go_upto_region 12 with (first | ((with_reducible refine gate_callee (f := 27) rfl ?_); refine goesL_ (some 40) rfl rfl Try.func27 (by kernel_rfl) rfl #[.slice A0 l0.length c0] rfl (by (try simp only [List.map_toArray, List.map_cons, List.map_nil]); first | done | rfl | (simp only [List.length_drop, List.length_take]; rfl)) ?_; (with_reducible refine (laws_toByteS.calls kj6 _ _ l0 t630 _ ?side1 ?side2 A32.out).mono ?_); (case side1 => repeat (first | exact (Kd.C_below HR0.out HB.out) | (with_reducible refine Kd.C_alloc ?_ _) | (with_reducible refine Kd.C_drewN ?_ _) | (with_reducible refine Kd.C_drew ?_))); (case side2 => exact HC0.out); rintro e w37 ⟨v631, rfl, ho0, hb⟩; refine ⟨_, rfl, ?_⟩; have n0_ := Aside0.mk (Kd.R_elder' (by (with_reducible repeat (first | apply Kd.R_alloc | apply Kd.R_drewN | apply Kd.R_drew)); exact HO_5.out) (Kd.R_base ho0) hb); have n1_ := Aside0.mk (Kd.R_below (by (with_reducible repeat (first | apply Kd.R_alloc | apply Kd.R_drewN | apply Kd.R_drew)); exact HO_615006.out) hb); have n2_ := Aside0.mk (Kd.R_below (by (with_reducible repeat (first | apply Kd.R_alloc | apply Kd.R_drewN | apply Kd.R_drew)); exact HO_629006.out) hb); have n3_ := Aside0.mk (Kd.R_lower (Kd.R_new' ho0 (Kd.R_lt (by (with_reducible repeat (first | apply Kd.R_alloc | apply Kd.R_drewN | apply Kd.R_drew)); exact HO_5.out))) (below_size (by repeat (first | (with_reducible first | exact HB.out | apply below_alloc | apply pw_below_drewN | apply below_drew1 | refine below_set ?_ GE614.out | refine below_set ?_ GE628.out) | exact HB.out)))); have n4_ := Aside0.mk (blk_below (g := gb614) (o := .cells #[.int .i64 t604, .int .i64 t605, .int .i64 t606, .int .i64 t607, .string t608, .int .i64 t609, .slice Ao13 t610.length co13] 33 (0, 0)) (by (with_reducible repeat (first | refine blk_drewN ?_ _ | refine blk_drew ?_ | refine blk_alloc ?_ _)); exact BK614.out) hb); have n5_ := Aside0.mk (blk_below (g := gb628) (o := .cells #[.int .i64 t618, .int .i64 t619, .int .i64 t620, .int .i64 t621, .string t622, .int .i64 t623, .slice Ao20 t624.length co20] 33 (0, 0)) (by (with_reducible repeat (first | refine blk_drewN ?_ _ | refine blk_drew ?_ | refine blk_alloc ?_ _)); exact BK628.out) hb); have n6_ := Aside0.mk (below_step (by repeat (first | (with_reducible first | exact HB.out | apply below_alloc | apply pw_below_drewN | apply below_drew1 | refine below_set ?_ GE614.out | refine below_set ?_ GE628.out) | exact HB.out)) hb); clear HO_5; clear HO_615006; clear HO_629006; clear BK614; clear BK628; clear HB; have HO_5 := n0_; have HO_615006 := n1_; have HO_629006 := n2_; have HO632 := n3_; have BK614 := n4_; have BK628 := n5_; have HB := n6_; clear n0_ n1_ n2_ n3_ n4_ n5_ n6_; (try clear hb); (try clear hb2); (try clear hk); (try clear hi); (try clear ho0); obtain ⟨Ao38, co38, eo38⟩ := Kd.R_slice HO632.out; subst eo38) | ((with_reducible refine gate_callee (f := 21) rfl ?_); refine goesL_ (some 41) rfl rfl Try.func21 (by kernel_rfl) rfl #[.slice Ao15 t615.length co15, .slice Ao38 t630.length co38] rfl (by (try simp only [List.map_toArray, List.map_cons, List.map_nil]); first | done | rfl | (simp only [List.length_drop, List.length_take]; rfl)) ?_; (with_reducible refine (laws_eqByteS.calls kj6 _ _ t615 _ _ t630 true _ ?side1 ?side2 ?side3 ?side4 A33.out).mono ?_); (case side1 => repeat (first | exact (Kd.R_reads' HO_5.out).2.2 | (with_reducible refine Kd.C_alloc ?_ _) | (with_reducible refine Kd.C_drewN ?_ _) | (with_reducible refine Kd.C_drew ?_))); (case side2 => exact (Kd.R_reads' HO_5.out).2.1); (case side3 => repeat (first | exact (Kd.R_reads' HO632.out).2.2 | (with_reducible refine Kd.C_alloc ?_ _) | (with_reducible refine Kd.C_drewN ?_ _) | (with_reducible refine Kd.C_drew ?_))); (case side4 => exact (Kd.R_reads' HO632.out).2.1); rintro e w' ⟨rfl, ⟨nd, rfl⟩⟩; refine ⟨_, rfl, ?_⟩) | ((with_reducible refine gate_callee (f := 24) rfl ?_); refine goesL_ (some 45) rfl rfl Try.func24 (by kernel_rfl) rfl #[.slice Ao15 t615.length co15, .int .i64 1] rfl (by (try simp only [List.map_toArray, List.map_cons, List.map_nil]); first | done | rfl | (simp only [List.length_drop, List.length_take]; rfl)) ?_; (with_reducible refine (laws_markByteS.calls kj6 (fun k_ => some k_ = (.slice Ao15 t615.length co15 : Value).ownBlock) (.slice Ao15 t615.length co15) t615 1 t634 t635 w _ ?side1 ?side2 A35.out).mono ?_); (case side1 => repeat (first | (with_reducible first | exact HB.out | apply below_alloc | apply pw_below_drewN | apply below_drew1 | refine below_set ?_ GE614.out | refine below_set ?_ GE628.out) | exact HB.out)); (case side2 => exact Kd.R_tight rfl HO_5.out); rintro e w39 ⟨rfl, hy0, hb, hkp⟩; refine ⟨_, rfl, ?_⟩; have n0_ := Aside0.mk (Kd.R_reok rfl hy0 (fun k_ e_ => HO_5.out.1 k_ e_)); have n1_ := Aside0.mk (Kd.R_mono (ok' := fun k_ => some k_ ≠ (.slice Ao20 t624.length co20 : Value).ownBlock) (Kd.R_keptB ((Kd.R_apart' HO_615006.out (Kd.R_typed HO_5.out) (by decide))) hkp (fun k_ hk_ hs_ => (hk_.2) hs_)) (fun k_ hk_ => hk_.1.1)); have n2_ := Aside0.mk (Kd.R_mono (ok' := fun k_ => some k_ ≠ (.slice Ao13 t610.length co13 : Value).ownBlock) (Kd.R_keptB ((Kd.R_apart' HO_629006.out (Kd.R_typed HO_5.out) (by decide))) hkp (fun k_ hk_ hs_ => (hk_.2) hs_)) (fun k_ hk_ => hk_.1.1)); have n3_ := Aside0.mk (blk_kept (by (with_reducible repeat (first | refine blk_drewN ?_ _ | refine blk_drew ?_ | refine blk_alloc ?_ _)); exact BK614.out) hkp (fun hs_ => (fun e_ => (Kd.R_ne HO_5.out BK614.out (by decide)) e_) hs_)); have n4_ := Aside0.mk (blk_kept (by (with_reducible repeat (first | refine blk_drewN ?_ _ | refine blk_drew ?_ | refine blk_alloc ?_ _)); exact BK628.out) hkp (fun hs_ => (fun e_ => (Kd.R_ne HO_5.out BK628.out (by decide)) e_) hs_)); have n5_ := Aside0.mk (Kd.R_mono (ok' := fun k_ => some k_ ≠ (.slice Ao15 t615.length co15 : Value).ownBlock) (Kd.R_keptB (HO632.out) hkp (fun k_ hk_ hs_ => (hk_.2) hs_)) (fun k_ hk_ => hk_.1.2)); have n6_ := Aside0.mk (hb); clear HO_5; clear HO_615006; clear HO_629006; clear BK614; clear BK628; clear HO632; clear HB; have HO_5 := n0_; have HO_615006 := n1_; have HO_629006 := n2_; have BK614 := n3_; have BK628 := n4_; have HO632 := n5_; have HB := n6_; clear n0_ n1_ n2_ n3_ n4_ n5_ n6_; (try clear hb); (try clear hkp); (try clear hy0)))
      (try simp only [Act.put, List.setIfInBounds_toArray, List.set_cons_zero, List.set_cons_succ])
      go_cut [58] (fun v58 wc => ∃ (kq : Nat) (x58_35 : Bool), v58 = .bool x58_35 ∧ Aside0 (laws_FnExactGetMsg.j1 kq l0 t613 x58_35 t604 t605 t606 t607 t608 t609 t610 t618 t619 t620 t621 t622 t623 t624 = some r) ∧ Aside0 (kq ≤ kj6) ∧ Aside0 (Kd.R Kd.string 9 wc w.heap.size (fun k_ => some k_ ≠ ((.slice Ao20 t624.length co20) : Value).ownBlock) (.slice Ao13 t610.length co13) t610) ∧ Aside0 (Kd.R Kd.string 9 wc w.heap.size (fun k_ => some k_ ≠ ((.slice Ao13 t610.length co13) : Value).ownBlock) (.slice Ao20 t624.length co20) t624) ∧ Aside0 (wc.heap[gb614]? = some (.cells #[.int .i64 t604, .int .i64 t605, .int .i64 t606, .int .i64 t607, .string t608, .int .i64 t609, (.slice Ao13 t610.length co13)] 33 (0, 0))) ∧ Aside0 (wc.heap[gb628]? = some (.cells #[.int .i64 t618, .int .i64 t619, .int .i64 t620, .int .i64 t621, .string t622, .int .i64 t623, (.slice Ao20 t624.length co20)] 33 (0, 0))) ∧ Aside0 (Below w.heap.size w wc))
      case first =>
       have H := HC36.out
       clear HC36
       by_cases c40 : t634 < 0
       ·rw [if_pos c40] at H
        have c40b0 : decide (t634 < 0) = true := decide_eq_true c40
        clear c40
        (first | rw [c40b0] | (simp only [i64_w, i32_w]; rw [c40b0]) | skip)
        have H' := Aside0.mk H
        clear H
        go_wp2
        go_meet
        case rel => exact ⟨_, (true), (by first | rfl | (simp; done) | (simp [*]; done)), H', ⟨by have := HJ6.out; first | omega | exact Nat.le_refl _⟩, ⟨by (with_reducible repeat (first | apply Kd.R_alloc | apply Kd.R_drewN | apply Kd.R_drew)); exact HO_615006.out⟩, ⟨by (with_reducible repeat (first | apply Kd.R_alloc | apply Kd.R_drewN | apply Kd.R_drew)); exact HO_629006.out⟩, ⟨by (with_reducible repeat (first | refine blk_drewN ?_ _ | refine blk_drew ?_ | refine blk_alloc ?_ _)); exact BK614.out⟩, ⟨by (with_reducible repeat (first | refine blk_drewN ?_ _ | refine blk_drew ?_ | refine blk_alloc ?_ _)); exact BK628.out⟩, ⟨by repeat (first | (with_reducible first | exact HB.out | apply below_alloc | apply pw_below_drewN | apply below_drew1 | refine below_set ?_ GE614.out | refine below_set ?_ GE628.out) | exact HB.out)⟩⟩
       ·rw [if_neg c40] at H
        have c40b0 : decide (t634 < 0) = false := decide_eq_false c40
        clear c40
        (first | rw [c40b0] | (simp only [i64_w, i32_w]; rw [c40b0]) | skip)
        replace H := Option.bind_eq_some_iff.mp H
        obtain ⟨t636, A410, H⟩ := H
        replace H : (if t636 = true then (laws_FnExactGetMsg.j1 kj6 l0 t613 (t627 != t613) t604 t605 t606 t607 t608 t609 t610 t618 t619 t620 t621 t622 t623 t624) else (laws_FnExactGetMsg.j1 kj6 l0 t613 true t604 t605 t606 t607 t608 t609 t610 t618 t619 t620 t621 t622 t623 t624)) = some r := H
        have A41 := Aside0.mk A410
        clear A410
        by_cases c42 : t636 = true
        ·subst c42
         have H1 : (laws_FnExactGetMsg.j1 kj6 l0 t613 (t627 != t613) t604 t605 t606 t607 t608 t609 t610 t618 t619 t620 t621 t622 t623 t624) = some r := by rw [if_pos rfl] at H; exact H
         clear H
         have H := H1
         clear H1
         have H' := Aside0.mk H
         clear H
         have hnb43 := NB628_614.out
         have hnc43 := NB614_628.out
         have hcz44_0 : w39.cell? ⟨gb628, 0, none⟩ = some (.int .i64 t618) := (blk_cell BK628.out 0).trans rfl
         have hcz44_1 : w39.cell? ⟨gb628, 1, none⟩ = some (.int .i64 t619) := (blk_cell BK628.out 1).trans rfl
         have hcz44_2 : w39.cell? ⟨gb628, 2, none⟩ = some (.int .i64 t620) := (blk_cell BK628.out 2).trans rfl
         have hcz44_3 : w39.cell? ⟨gb628, 3, none⟩ = some (.int .i64 t621) := (blk_cell BK628.out 3).trans rfl
         have hcz44_4 : w39.cell? ⟨gb628, 4, none⟩ = some (.string t622) := (blk_cell BK628.out 4).trans rfl
         have hcz44_5 : w39.cell? ⟨gb628, 5, none⟩ = some (.int .i64 t623) := (blk_cell BK628.out 5).trans rfl
         have hcz44_6 : w39.cell? ⟨gb628, 6, none⟩ = some (.slice Ao20 t624.length co20) := (blk_cell BK628.out 6).trans rfl
         have hfz44_0 := blk_frozen BK628.out 0
         have hfz44_1 := blk_frozen BK628.out 1
         have hfz44_2 := blk_frozen BK628.out 2
         have hfz44_3 := blk_frozen BK628.out 3
         have hfz44_4 := blk_frozen BK628.out 4
         have hfz44_5 := blk_frozen BK628.out 5
         have hfz44_6 := blk_frozen BK628.out 6
         have hcz45_0 : w39.cell? ⟨gb614, 0, none⟩ = some (.int .i64 t604) := (blk_cell BK614.out 0).trans rfl
         have hcz45_1 : w39.cell? ⟨gb614, 1, none⟩ = some (.int .i64 t605) := (blk_cell BK614.out 1).trans rfl
         have hcz45_2 : w39.cell? ⟨gb614, 2, none⟩ = some (.int .i64 t606) := (blk_cell BK614.out 2).trans rfl
         have hcz45_3 : w39.cell? ⟨gb614, 3, none⟩ = some (.int .i64 t607) := (blk_cell BK614.out 3).trans rfl
         have hcz45_4 : w39.cell? ⟨gb614, 4, none⟩ = some (.string t608) := (blk_cell BK614.out 4).trans rfl
         have hcz45_5 : w39.cell? ⟨gb614, 5, none⟩ = some (.int .i64 t609) := (blk_cell BK614.out 5).trans rfl
         have hcz45_6 : w39.cell? ⟨gb614, 6, none⟩ = some (.slice Ao13 t610.length co13) := (blk_cell BK614.out 6).trans rfl
         have hfz45_0 := blk_frozen BK614.out 0
         have hfz45_1 := blk_frozen BK614.out 1
         have hfz45_2 := blk_frozen BK614.out 2
         have hfz45_3 := blk_frozen BK614.out 3
         have hfz45_4 := blk_frozen BK614.out 4
         have hfz45_5 := blk_frozen BK614.out 5
         have hfz45_6 := blk_frozen BK614.out 6
         go_wp2_with (first | (go_at_call 22; (with_reducible refine (laws_eqMsg.calls kj6 t618 t619 t620 t621 t622 t623 _ _ t624 t604 t605 t606 t607 t608 t609 _ _ t610 true _ ?side1 ?side2 ?side3 ?side4 A41.out).mono ?_); (case side1 => repeat (first | exact (Kd.R_reads' HO_629006.out).2.2 | (with_reducible refine Kd.C_alloc ?_ _) | (with_reducible refine Kd.C_drewN ?_ _) | (with_reducible refine Kd.C_drew ?_))); (case side2 => exact (Kd.R_reads' HO_629006.out).2.1); (case side3 => repeat (first | exact (Kd.R_reads' HO_615006.out).2.2 | (with_reducible refine Kd.C_alloc ?_ _) | (with_reducible refine Kd.C_drewN ?_ _) | (with_reducible refine Kd.C_drew ?_))); (case side4 => exact (Kd.R_reads' HO_615006.out).2.1); rintro e w46 ⟨rfl, hb⟩; have n0_ := Aside0.mk (Kd.R_below (by (with_reducible repeat (first | apply Kd.R_alloc | apply Kd.R_drewN | apply Kd.R_drew)); exact HO_5.out) hb); have n1_ := Aside0.mk (Kd.R_below (by (with_reducible repeat (first | apply Kd.R_alloc | apply Kd.R_drewN | apply Kd.R_drew)); exact HO_615006.out) hb); have n2_ := Aside0.mk (Kd.R_below (by (with_reducible repeat (first | apply Kd.R_alloc | apply Kd.R_drewN | apply Kd.R_drew)); exact HO_629006.out) hb); have n3_ := Aside0.mk (Kd.R_below (by (with_reducible repeat (first | apply Kd.R_alloc | apply Kd.R_drewN | apply Kd.R_drew)); exact HO632.out) hb); have n4_ := Aside0.mk (blk_below (g := gb614) (o := .cells #[.int .i64 t604, .int .i64 t605, .int .i64 t606, .int .i64 t607, .string t608, .int .i64 t609, .slice Ao13 t610.length co13] 33 (0, 0)) (by (with_reducible repeat (first | refine blk_drewN ?_ _ | refine blk_drew ?_ | refine blk_alloc ?_ _)); exact BK614.out) hb); have n5_ := Aside0.mk (blk_below (g := gb628) (o := .cells #[.int .i64 t618, .int .i64 t619, .int .i64 t620, .int .i64 t621, .string t622, .int .i64 t623, .slice Ao20 t624.length co20] 33 (0, 0)) (by (with_reducible repeat (first | refine blk_drewN ?_ _ | refine blk_drew ?_ | refine blk_alloc ?_ _)); exact BK628.out) hb); have n6_ := Aside0.mk (below_step (by repeat (first | (with_reducible first | exact HB.out | apply below_alloc | apply pw_below_drewN | apply below_drew1 | refine below_set ?_ GE614.out | refine below_set ?_ GE628.out) | exact HB.out)) hb); clear HO_5; clear HO_615006; clear HO_629006; clear HO632; clear BK614; clear BK628; clear HB; have HO_5 := n0_; have HO_615006 := n1_; have HO_629006 := n2_; have HO632 := n3_; have BK614 := n4_; have BK628 := n5_; have HB := n6_; clear n0_ n1_ n2_ n3_ n4_ n5_ n6_; (try clear hb); (try clear hb2); (try clear hk); (try clear hi)))
         go_meet
         case rel => exact ⟨_, ((t627 != t613)), (by first | rfl | (simp; done) | (simp [*]; done)), H', ⟨by have := HJ6.out; first | omega | exact Nat.le_refl _⟩, ⟨by (with_reducible repeat (first | apply Kd.R_alloc | apply Kd.R_drewN | apply Kd.R_drew)); exact HO_615006.out⟩, ⟨by (with_reducible repeat (first | apply Kd.R_alloc | apply Kd.R_drewN | apply Kd.R_drew)); exact HO_629006.out⟩, ⟨by (with_reducible repeat (first | refine blk_drewN ?_ _ | refine blk_drew ?_ | refine blk_alloc ?_ _)); exact BK614.out⟩, ⟨by (with_reducible repeat (first | refine blk_drewN ?_ _ | refine blk_drew ?_ | refine blk_alloc ?_ _)); exact BK628.out⟩, ⟨by repeat (first | (with_reducible first | exact HB.out | apply below_alloc | apply pw_below_drewN | apply below_drew1 | refine below_set ?_ GE614.out | refine below_set ?_ GE628.out) | exact HB.out)⟩⟩
        ·replace c42 := Bool.eq_false_iff.mpr c42
         subst c42
         have H1 : (laws_FnExactGetMsg.j1 kj6 l0 t613 true t604 t605 t606 t607 t608 t609 t610 t618 t619 t620 t621 t622 t623 t624) = some r := by rw [if_neg (show ¬ (false = true) by decide)] at H; exact H
         clear H
         have H := H1
         clear H1
         have H' := Aside0.mk H
         clear H
         have hnb47 := NB628_614.out
         have hnc47 := NB614_628.out
         have hcz48_0 : w39.cell? ⟨gb628, 0, none⟩ = some (.int .i64 t618) := (blk_cell BK628.out 0).trans rfl
         have hcz48_1 : w39.cell? ⟨gb628, 1, none⟩ = some (.int .i64 t619) := (blk_cell BK628.out 1).trans rfl
         have hcz48_2 : w39.cell? ⟨gb628, 2, none⟩ = some (.int .i64 t620) := (blk_cell BK628.out 2).trans rfl
         have hcz48_3 : w39.cell? ⟨gb628, 3, none⟩ = some (.int .i64 t621) := (blk_cell BK628.out 3).trans rfl
         have hcz48_4 : w39.cell? ⟨gb628, 4, none⟩ = some (.string t622) := (blk_cell BK628.out 4).trans rfl
         have hcz48_5 : w39.cell? ⟨gb628, 5, none⟩ = some (.int .i64 t623) := (blk_cell BK628.out 5).trans rfl
         have hcz48_6 : w39.cell? ⟨gb628, 6, none⟩ = some (.slice Ao20 t624.length co20) := (blk_cell BK628.out 6).trans rfl
         have hfz48_0 := blk_frozen BK628.out 0
         have hfz48_1 := blk_frozen BK628.out 1
         have hfz48_2 := blk_frozen BK628.out 2
         have hfz48_3 := blk_frozen BK628.out 3
         have hfz48_4 := blk_frozen BK628.out 4
         have hfz48_5 := blk_frozen BK628.out 5
         have hfz48_6 := blk_frozen BK628.out 6
         have hcz49_0 : w39.cell? ⟨gb614, 0, none⟩ = some (.int .i64 t604) := (blk_cell BK614.out 0).trans rfl
         have hcz49_1 : w39.cell? ⟨gb614, 1, none⟩ = some (.int .i64 t605) := (blk_cell BK614.out 1).trans rfl
         have hcz49_2 : w39.cell? ⟨gb614, 2, none⟩ = some (.int .i64 t606) := (blk_cell BK614.out 2).trans rfl
         have hcz49_3 : w39.cell? ⟨gb614, 3, none⟩ = some (.int .i64 t607) := (blk_cell BK614.out 3).trans rfl
         have hcz49_4 : w39.cell? ⟨gb614, 4, none⟩ = some (.string t608) := (blk_cell BK614.out 4).trans rfl
         have hcz49_5 : w39.cell? ⟨gb614, 5, none⟩ = some (.int .i64 t609) := (blk_cell BK614.out 5).trans rfl
         have hcz49_6 : w39.cell? ⟨gb614, 6, none⟩ = some (.slice Ao13 t610.length co13) := (blk_cell BK614.out 6).trans rfl
         have hfz49_0 := blk_frozen BK614.out 0
         have hfz49_1 := blk_frozen BK614.out 1
         have hfz49_2 := blk_frozen BK614.out 2
         have hfz49_3 := blk_frozen BK614.out 3
         have hfz49_4 := blk_frozen BK614.out 4
         have hfz49_5 := blk_frozen BK614.out 5
         have hfz49_6 := blk_frozen BK614.out 6
         go_wp2_with (first | (go_at_call 22; (with_reducible refine (laws_eqMsg.calls kj6 t618 t619 t620 t621 t622 t623 _ _ t624 t604 t605 t606 t607 t608 t609 _ _ t610 false _ ?side1 ?side2 ?side3 ?side4 A41.out).mono ?_); (case side1 => repeat (first | exact (Kd.R_reads' HO_629006.out).2.2 | (with_reducible refine Kd.C_alloc ?_ _) | (with_reducible refine Kd.C_drewN ?_ _) | (with_reducible refine Kd.C_drew ?_))); (case side2 => exact (Kd.R_reads' HO_629006.out).2.1); (case side3 => repeat (first | exact (Kd.R_reads' HO_615006.out).2.2 | (with_reducible refine Kd.C_alloc ?_ _) | (with_reducible refine Kd.C_drewN ?_ _) | (with_reducible refine Kd.C_drew ?_))); (case side4 => exact (Kd.R_reads' HO_615006.out).2.1); rintro e w50 ⟨rfl, hb⟩; have n0_ := Aside0.mk (Kd.R_below (by (with_reducible repeat (first | apply Kd.R_alloc | apply Kd.R_drewN | apply Kd.R_drew)); exact HO_5.out) hb); have n1_ := Aside0.mk (Kd.R_below (by (with_reducible repeat (first | apply Kd.R_alloc | apply Kd.R_drewN | apply Kd.R_drew)); exact HO_615006.out) hb); have n2_ := Aside0.mk (Kd.R_below (by (with_reducible repeat (first | apply Kd.R_alloc | apply Kd.R_drewN | apply Kd.R_drew)); exact HO_629006.out) hb); have n3_ := Aside0.mk (Kd.R_below (by (with_reducible repeat (first | apply Kd.R_alloc | apply Kd.R_drewN | apply Kd.R_drew)); exact HO632.out) hb); have n4_ := Aside0.mk (blk_below (g := gb614) (o := .cells #[.int .i64 t604, .int .i64 t605, .int .i64 t606, .int .i64 t607, .string t608, .int .i64 t609, .slice Ao13 t610.length co13] 33 (0, 0)) (by (with_reducible repeat (first | refine blk_drewN ?_ _ | refine blk_drew ?_ | refine blk_alloc ?_ _)); exact BK614.out) hb); have n5_ := Aside0.mk (blk_below (g := gb628) (o := .cells #[.int .i64 t618, .int .i64 t619, .int .i64 t620, .int .i64 t621, .string t622, .int .i64 t623, .slice Ao20 t624.length co20] 33 (0, 0)) (by (with_reducible repeat (first | refine blk_drewN ?_ _ | refine blk_drew ?_ | refine blk_alloc ?_ _)); exact BK628.out) hb); have n6_ := Aside0.mk (below_step (by repeat (first | (with_reducible first | exact HB.out | apply below_alloc | apply pw_below_drewN | apply below_drew1 | refine below_set ?_ GE614.out | refine below_set ?_ GE628.out) | exact HB.out)) hb); clear HO_5; clear HO_615006; clear HO_629006; clear HO632; clear BK614; clear BK628; clear HB; have HO_5 := n0_; have HO_615006 := n1_; have HO_629006 := n2_; have HO632 := n3_; have BK614 := n4_; have BK628 := n5_; have HB := n6_; clear n0_ n1_ n2_ n3_ n4_ n5_ n6_; (try clear hb); (try clear hb2); (try clear hk); (try clear hi)))
         go_meet
         case rel => exact ⟨_, (true), (by first | rfl | (simp; done) | (simp [*]; done)), H', ⟨by have := HJ6.out; first | omega | exact Nat.le_refl _⟩, ⟨by (with_reducible repeat (first | apply Kd.R_alloc | apply Kd.R_drewN | apply Kd.R_drew)); exact HO_615006.out⟩, ⟨by (with_reducible repeat (first | apply Kd.R_alloc | apply Kd.R_drewN | apply Kd.R_drew)); exact HO_629006.out⟩, ⟨by (with_reducible repeat (first | refine blk_drewN ?_ _ | refine blk_drew ?_ | refine blk_alloc ?_ _)); exact BK614.out⟩, ⟨by (with_reducible repeat (first | refine blk_drewN ?_ _ | refine blk_drew ?_ | refine blk_alloc ?_ _)); exact BK628.out⟩, ⟨by repeat (first | (with_reducible first | exact HB.out | apply below_alloc | apply pw_below_drewN | apply below_drew1 | refine below_set ?_ GE614.out | refine below_set ?_ GE628.out) | exact HB.out)⟩⟩
      case rest =>
       clear HC36
       try clear c1
       try clear c2
       try clear c2b0
       try clear c2b1
       try clear p2
       try clear c3
       try clear c4
       try clear c5
       try clear c18
       try clear c21
       try clear c22
       try clear c23
       try clear c24
       try clear c26
       try clear c27
       try clear c28
       try clear c31
       try clear c34
       try clear c40
       try clear c40b0
       try clear c42
       try clear c43
       try clear c47
       try clear hcz12_0
       try clear hcz12_1
       try clear hcz12_2
       try clear hcz12_3
       try clear hcz12_4
       try clear hcz12_5
       try clear hcz12_6
       try clear hcz19_0
       try clear hcz19_1
       try clear hcz19_2
       try clear hcz19_3
       try clear hcz19_4
       try clear hcz19_5
       try clear hcz19_6
       try clear hcz24_0
       try clear hcz24_1
       try clear hcz24_2
       try clear hcz24_3
       try clear hcz24_4
       try clear hcz24_5
       try clear hcz24_6
       try clear hcz25_0
       try clear hcz25_1
       try clear hcz25_2
       try clear hcz25_3
       try clear hcz25_4
       try clear hcz25_5
       try clear hcz25_6
       try clear hcz28_0
       try clear hcz28_1
       try clear hcz28_2
       try clear hcz28_3
       try clear hcz28_4
       try clear hcz28_5
       try clear hcz28_6
       try clear hcz29_0
       try clear hcz29_1
       try clear hcz29_2
       try clear hcz29_3
       try clear hcz29_4
       try clear hcz29_5
       try clear hcz29_6
       try clear hcz44_0
       try clear hcz44_1
       try clear hcz44_2
       try clear hcz44_3
       try clear hcz44_4
       try clear hcz44_5
       try clear hcz44_6
       try clear hcz45_0
       try clear hcz45_1
       try clear hcz45_2
       try clear hcz45_3
       try clear hcz45_4
       try clear hcz45_5
       try clear hcz45_6
       try clear hcz48_0
       try clear hcz48_1
       try clear hcz48_2
       try clear hcz48_3
       try clear hcz48_4
       try clear hcz48_5
       try clear hcz48_6
       try clear hcz49_0
       try clear hcz49_1
       try clear hcz49_2
       try clear hcz49_3
       try clear hcz49_4
       try clear hcz49_5
       try clear hcz49_6
       try clear hfz12_0
       try clear hfz12_1
       try clear hfz12_2
       try clear hfz12_3
       try clear hfz12_4
       try clear hfz12_5
       try clear hfz12_6
       try clear hfz19_0
       try clear hfz19_1
       try clear hfz19_2
       try clear hfz19_3
       try clear hfz19_4
       try clear hfz19_5
       try clear hfz19_6
       try clear hfz24_0
       try clear hfz24_1
       try clear hfz24_2
       try clear hfz24_3
       try clear hfz24_4
       try clear hfz24_5
       try clear hfz24_6
       try clear hfz25_0
       try clear hfz25_1
       try clear hfz25_2
       try clear hfz25_3
       try clear hfz25_4
       try clear hfz25_5
       try clear hfz25_6
       try clear hfz28_0
       try clear hfz28_1
       try clear hfz28_2
       try clear hfz28_3
       try clear hfz28_4
       try clear hfz28_5
       try clear hfz28_6
       try clear hfz29_0
       try clear hfz29_1
       try clear hfz29_2
       try clear hfz29_3
       try clear hfz29_4
       try clear hfz29_5
       try clear hfz29_6
       try clear hfz44_0
       try clear hfz44_1
       try clear hfz44_2
       try clear hfz44_3
       try clear hfz44_4
       try clear hfz44_5
       try clear hfz44_6
       try clear hfz45_0
       try clear hfz45_1
       try clear hfz45_2
       try clear hfz45_3
       try clear hfz45_4
       try clear hfz45_5
       try clear hfz45_6
       try clear hfz48_0
       try clear hfz48_1
       try clear hfz48_2
       try clear hfz48_3
       try clear hfz48_4
       try clear hfz48_5
       try clear hfz48_6
       try clear hfz49_0
       try clear hfz49_1
       try clear hfz49_2
       try clear hfz49_3
       try clear hfz49_4
       try clear hfz49_5
       try clear hfz49_6
       try clear p2
       obtain ⟨kq, x58_35, rfl, HA, HJ35, HO_615006, HO_629006, BK614, BK628, HB⟩ := hcut
       cases kq with
       | zero => exact absurd HA.out (by simp [laws_FnExactGetMsg.j1])
       | succ kj35 =>
        have H := HA.out
        clear HA
        simp only [laws_FnExactGetMsg.j1] at H
        by_cases c51 : x58_35 = true
        ·subst c51
         have H1 : (none) = some r := by rw [if_pos rfl] at H; exact H
         clear H
         have H := H1
         clear H1
         exact absurd H (by simp)
        ·replace c51 := Bool.eq_false_iff.mpr c51
         subst c51
         have H1 : ((laws_markMsg.f kj35 t618 t619 t620 t621 t622 t623 t624 1).bind fun bt637 => ((laws_heldMsg.f kj35 t618 t619 t620 t621 t622 t623 bt637.2 1).bind fun t639 => (if t639 < 0 then (none) else (if t639 = bt637.1 then ((laws_toByteS.f kj35 l0).bind fun t640 => ((impl_GetMsg.f kj35 t640).bind fun bt643 => ((laws_eqMsg.f kj35 bt643.1 bt643.2.1 bt643.2.2.1 bt643.2.2.2.1 bt643.2.2.2.2.1 bt643.2.2.2.2.2.1 bt643.2.2.2.2.2.2.1 t604 t605 t606 t607 t608 t609 t610).bind fun t654 => (if t654 = true then (laws_FnExactGetMsg.j2 kj35 bt637.1 (bt643.2.2.2.2.2.2.2 != t613) t618 t619 t620 t621 t622 t623 bt637.2) else (laws_FnExactGetMsg.j2 kj35 bt637.1 true t618 t619 t620 t621 t622 t623 bt637.2))))) else (none))))) = some r := by rw [if_neg (show ¬ (false = true) by decide)] at H; exact H
         clear H
         have H := H1
         clear H1
         replace H := Option.bind_eq_some_iff.mp H
         obtain ⟨⟨t637, t638⟩, A520, H⟩ := H
         replace H : ((laws_heldMsg.f kj35 t618 t619 t620 t621 t622 t623 t638 1).bind fun t639 => (if t639 < 0 then (none) else (if t639 = t637 then ((laws_toByteS.f kj35 l0).bind fun t640 => ((impl_GetMsg.f kj35 t640).bind fun bt643 => ((laws_eqMsg.f kj35 bt643.1 bt643.2.1 bt643.2.2.1 bt643.2.2.2.1 bt643.2.2.2.2.1 bt643.2.2.2.2.2.1 bt643.2.2.2.2.2.2.1 t604 t605 t606 t607 t608 t609 t610).bind fun t654 => (if t654 = true then (laws_FnExactGetMsg.j2 kj35 t637 (bt643.2.2.2.2.2.2.2 != t613) t618 t619 t620 t621 t622 t623 t638) else (laws_FnExactGetMsg.j2 kj35 t637 true t618 t619 t620 t621 t622 t623 t638))))) else (none)))) = some r := H
         have A52 := Aside0.mk A520
         clear A520
         replace H := Option.bind_eq_some_iff.mp H
         obtain ⟨t639, A530, H⟩ := H
         replace H : (if t639 < 0 then (none) else (if t639 = t637 then ((laws_toByteS.f kj35 l0).bind fun t640 => ((impl_GetMsg.f kj35 t640).bind fun bt643 => ((laws_eqMsg.f kj35 bt643.1 bt643.2.1 bt643.2.2.1 bt643.2.2.2.1 bt643.2.2.2.2.1 bt643.2.2.2.2.2.1 bt643.2.2.2.2.2.2.1 t604 t605 t606 t607 t608 t609 t610).bind fun t654 => (if t654 = true then (laws_FnExactGetMsg.j2 kj35 t637 (bt643.2.2.2.2.2.2.2 != t613) t618 t619 t620 t621 t622 t623 t638) else (laws_FnExactGetMsg.j2 kj35 t637 true t618 t619 t620 t621 t622 t623 t638))))) else (none))) = some r := H
         have A53 := Aside0.mk A530
         clear A530
         by_cases c54 : t639 < 0
         ·rw [if_pos c54] at H
          exact absurd H (by simp)
         ·rw [if_neg c54] at H
          have c54b0 : decide (t639 < 0) = false := decide_eq_false c54
          clear c54
          by_cases c55 : t639 = t637
          ·rw [if_pos c55] at H
           have c55b0 : (t639 == t637) = true := beq_iff_eq.mpr c55
           have c55b1 : (t639 != t637) = false := bne_eq_false_iff_eq.mpr c55
           clear c55
           replace H := Option.bind_eq_some_iff.mp H
           obtain ⟨t640, A560, H⟩ := H
           replace H : ((impl_GetMsg.f kj35 t640).bind fun bt643 => ((laws_eqMsg.f kj35 bt643.1 bt643.2.1 bt643.2.2.1 bt643.2.2.2.1 bt643.2.2.2.2.1 bt643.2.2.2.2.2.1 bt643.2.2.2.2.2.2.1 t604 t605 t606 t607 t608 t609 t610).bind fun t654 => (if t654 = true then (laws_FnExactGetMsg.j2 kj35 t637 (bt643.2.2.2.2.2.2.2 != t613) t618 t619 t620 t621 t622 t623 t638) else (laws_FnExactGetMsg.j2 kj35 t637 true t618 t619 t620 t621 t622 t623 t638)))) = some r := H
           have A56 := Aside0.mk A560
           clear A560
           replace H := Option.bind_eq_some_iff.mp H
           obtain ⟨⟨t643, t644, t645, t646, t647, t648, t649, t652⟩, A570, H⟩ := H
           replace H : ((laws_eqMsg.f kj35 t643 t644 t645 t646 t647 t648 t649 t604 t605 t606 t607 t608 t609 t610).bind fun t654 => (if t654 = true then (laws_FnExactGetMsg.j2 kj35 t637 (t652 != t613) t618 t619 t620 t621 t622 t623 t638) else (laws_FnExactGetMsg.j2 kj35 t637 true t618 t619 t620 t621 t622 t623 t638))) = some r := H
           have A57 := Aside0.mk A570
           clear A570
           have HC58 := Aside0.mk H
           clear H
           have hnb59 := NB628_614.out
           have hnc59 := NB614_628.out
           have hcz60_0 : wc.cell? ⟨gb628, 0, none⟩ = some (.int .i64 t618) := (blk_cell BK628.out 0).trans rfl
           have hcz60_1 : wc.cell? ⟨gb628, 1, none⟩ = some (.int .i64 t619) := (blk_cell BK628.out 1).trans rfl
           have hcz60_2 : wc.cell? ⟨gb628, 2, none⟩ = some (.int .i64 t620) := (blk_cell BK628.out 2).trans rfl
           have hcz60_3 : wc.cell? ⟨gb628, 3, none⟩ = some (.int .i64 t621) := (blk_cell BK628.out 3).trans rfl
           have hcz60_4 : wc.cell? ⟨gb628, 4, none⟩ = some (.string t622) := (blk_cell BK628.out 4).trans rfl
           have hcz60_5 : wc.cell? ⟨gb628, 5, none⟩ = some (.int .i64 t623) := (blk_cell BK628.out 5).trans rfl
           have hcz60_6 : wc.cell? ⟨gb628, 6, none⟩ = some (.slice Ao20 t624.length co20) := (blk_cell BK628.out 6).trans rfl
           have hfz60_0 := blk_frozen BK628.out 0
           have hfz60_1 := blk_frozen BK628.out 1
           have hfz60_2 := blk_frozen BK628.out 2
           have hfz60_3 := blk_frozen BK628.out 3
           have hfz60_4 := blk_frozen BK628.out 4
           have hfz60_5 := blk_frozen BK628.out 5
           have hfz60_6 := blk_frozen BK628.out 6
           go_upto_region 23 with (first | ((with_reducible refine gate_callee (f := 23) rfl ?_); refine goesL_ (some 61) rfl rfl Try.func23 (by kernel_rfl) rfl #[.agg #[.int .i64 t618, .int .i64 t619, .int .i64 t620, .int .i64 t621, .string t622, .int .i64 t623, .slice Ao20 t624.length co20], .int .i64 1] rfl (by (try simp only [List.map_toArray, List.map_cons, List.map_nil]); first | done | rfl | (simp only [List.length_drop, List.length_take]; rfl)) ?_; (with_reducible refine (laws_markMsg.calls kj35 t618 t619 t620 t621 t622 t623 (fun k_ => some k_ = (.slice Ao20 t624.length co20 : Value).ownBlock) (.slice Ao20 t624.length co20) t624 1 t637 t638 w _ ?side1 ?side2 A52.out).mono ?_); (case side1 => repeat (first | (with_reducible first | exact HB.out | apply below_alloc | apply pw_below_drewN | apply below_drew1 | refine below_set ?_ GE614.out | refine below_set ?_ GE628.out) | exact HB.out)); (case side2 => exact Kd.R_tight rfl HO_629006.out); rintro e w61 ⟨rfl, hy0, hb, hkp⟩; refine ⟨_, rfl, ?_⟩; have n0_ := Aside0.mk (Kd.R_mono (ok' := fun k_ => some k_ ≠ (.slice Ao20 t624.length co20 : Value).ownBlock) (Kd.R_keptB (HO_615006.out) hkp (fun k_ hk_ hs_ => (hk_) hs_)) (fun k_ hk_ => hk_.1)); have n1_ := Aside0.mk (Kd.R_reok rfl hy0 (fun k_ e_ => HO_629006.out.1 k_ e_)); have n2_ := Aside0.mk (blk_kept (by (with_reducible repeat (first | refine blk_drewN ?_ _ | refine blk_drew ?_ | refine blk_alloc ?_ _)); exact BK614.out) hkp (fun hs_ => (fun e_ => (Kd.R_ne HO_629006.out BK614.out (by decide)) e_) hs_)); have n3_ := Aside0.mk (blk_kept (by (with_reducible repeat (first | refine blk_drewN ?_ _ | refine blk_drew ?_ | refine blk_alloc ?_ _)); exact BK628.out) hkp (fun hs_ => (fun e_ => (Kd.R_ne HO_629006.out BK628.out (by decide)) e_) hs_)); have n4_ := Aside0.mk (hb); clear HO_615006; clear HO_629006; clear BK614; clear BK628; clear HB; have HO_615006 := n0_; have HO_629006 := n1_; have BK614 := n2_; have BK628 := n3_; have HB := n4_; clear n0_ n1_ n2_ n3_ n4_; (try clear hb); (try clear hkp); (try clear hy0); have hcz62_0 : w61.cell? ⟨gb628, 0, none⟩ = some (.int .i64 t618) := (blk_cell BK628.out 0).trans rfl; have hcz62_1 : w61.cell? ⟨gb628, 1, none⟩ = some (.int .i64 t619) := (blk_cell BK628.out 1).trans rfl; have hcz62_2 : w61.cell? ⟨gb628, 2, none⟩ = some (.int .i64 t620) := (blk_cell BK628.out 2).trans rfl; have hcz62_3 : w61.cell? ⟨gb628, 3, none⟩ = some (.int .i64 t621) := (blk_cell BK628.out 3).trans rfl; have hcz62_4 : w61.cell? ⟨gb628, 4, none⟩ = some (.string t622) := (blk_cell BK628.out 4).trans rfl; have hcz62_5 : w61.cell? ⟨gb628, 5, none⟩ = some (.int .i64 t623) := (blk_cell BK628.out 5).trans rfl; have hcz62_6 : w61.cell? ⟨gb628, 6, none⟩ = some (.slice Ao20 t624.length co20) := (blk_cell BK628.out 6).trans rfl; have hfz62_0 := blk_frozen BK628.out 0; have hfz62_1 := blk_frozen BK628.out 1; have hfz62_2 := blk_frozen BK628.out 2; have hfz62_3 := blk_frozen BK628.out 3; have hfz62_4 := blk_frozen BK628.out 4; have hfz62_5 := blk_frozen BK628.out 5; have hfz62_6 := blk_frozen BK628.out 6) | ((with_reducible refine gate_callee (f := 29) rfl ?_); refine goesL_ (some 64) rfl rfl Try.func29 (by kernel_rfl) rfl #[.agg #[.int .i64 t618, .int .i64 t619, .int .i64 t620, .int .i64 t621, .string t622, .int .i64 t623, .slice Ao20 t638.length co20], .int .i64 1] rfl (by (try simp only [List.map_toArray, List.map_cons, List.map_nil]); first | done | (rw [show t638.length = t624.length from (Kd.R_reads' HO_629006.out).1.symm] <;> rfl) | rfl | (simp only [List.length_drop, List.length_take]; rfl)) ?_; (with_reducible refine (laws_heldMsg.calls kj35 t618 t619 t620 t621 t622 t623 _ _ t638 1 t639 _ ?side1 ?side2 A53.out).mono ?_); (case side1 => repeat (first | exact (Kd.R_reads' HO_629006.out).2.2 | (with_reducible refine Kd.C_alloc ?_ _) | (with_reducible refine Kd.C_drewN ?_ _) | (with_reducible refine Kd.C_drew ?_))); (case side2 => rw [show t638.length = t624.length from (Kd.R_reads' HO_629006.out).1.symm]; exact (Kd.R_reads' HO_629006.out).2.1); rintro e w63 ⟨rfl, hb⟩; refine ⟨_, rfl, ?_⟩; have n0_ := Aside0.mk (Kd.R_below (by (with_reducible repeat (first | apply Kd.R_alloc | apply Kd.R_drewN | apply Kd.R_drew)); exact HO_615006.out) hb); have n1_ := Aside0.mk (Kd.R_below (by (with_reducible repeat (first | apply Kd.R_alloc | apply Kd.R_drewN | apply Kd.R_drew)); exact HO_629006.out) hb); have n2_ := Aside0.mk (blk_below (g := gb614) (o := .cells #[.int .i64 t604, .int .i64 t605, .int .i64 t606, .int .i64 t607, .string t608, .int .i64 t609, .slice Ao13 t610.length co13] 33 (0, 0)) (by (with_reducible repeat (first | refine blk_drewN ?_ _ | refine blk_drew ?_ | refine blk_alloc ?_ _)); exact BK614.out) hb); have n3_ := Aside0.mk (blk_below (g := gb628) (o := .cells #[.int .i64 t618, .int .i64 t619, .int .i64 t620, .int .i64 t621, .string t622, .int .i64 t623, .slice Ao20 t624.length co20] 33 (0, 0)) (by (with_reducible repeat (first | refine blk_drewN ?_ _ | refine blk_drew ?_ | refine blk_alloc ?_ _)); exact BK628.out) hb); have n4_ := Aside0.mk (below_step (by repeat (first | (with_reducible first | exact HB.out | apply below_alloc | apply pw_below_drewN | apply below_drew1 | refine below_set ?_ GE614.out | refine below_set ?_ GE628.out) | exact HB.out)) hb); clear HO_615006; clear HO_629006; clear BK614; clear BK628; clear HB; have HO_615006 := n0_; have HO_629006 := n1_; have BK614 := n2_; have BK628 := n3_; have HB := n4_; clear n0_ n1_ n2_ n3_ n4_; (try clear hb); (try clear hb2); (try clear hk); (try clear hi)) | ((with_reducible refine gate_callee (f := 27) rfl ?_); refine goesL_ (some 72) rfl rfl Try.func27 (by kernel_rfl) rfl #[.slice A0 l0.length c0] rfl (by (try simp only [List.map_toArray, List.map_cons, List.map_nil]); first | done | rfl | (simp only [List.length_drop, List.length_take]; rfl)) ?_; (with_reducible refine (laws_toByteS.calls kj35 _ _ l0 t640 _ ?side1 ?side2 A56.out).mono ?_); (case side1 => repeat (first | exact (Kd.C_below HR0.out HB.out) | (with_reducible refine Kd.C_alloc ?_ _) | (with_reducible refine Kd.C_drewN ?_ _) | (with_reducible refine Kd.C_drew ?_))); (case side2 => exact HC0.out); rintro e w64 ⟨v641, rfl, ho0, hb⟩; refine ⟨_, rfl, ?_⟩; have n0_ := Aside0.mk (Kd.R_below (by (with_reducible repeat (first | apply Kd.R_alloc | apply Kd.R_drewN | apply Kd.R_drew)); exact HO_615006.out) hb); have n1_ := Aside0.mk (Kd.R_below (by (with_reducible repeat (first | apply Kd.R_alloc | apply Kd.R_drewN | apply Kd.R_drew)); exact HO_629006.out) hb); have n2_ := Aside0.mk (Kd.R_lower ho0 (below_size (by repeat (first | (with_reducible first | exact HB.out | apply below_alloc | apply pw_below_drewN | apply below_drew1 | refine below_set ?_ GE614.out | refine below_set ?_ GE628.out) | exact HB.out)))); have n3_ := Aside0.mk (blk_below (g := gb614) (o := .cells #[.int .i64 t604, .int .i64 t605, .int .i64 t606, .int .i64 t607, .string t608, .int .i64 t609, .slice Ao13 t610.length co13] 33 (0, 0)) (by (with_reducible repeat (first | refine blk_drewN ?_ _ | refine blk_drew ?_ | refine blk_alloc ?_ _)); exact BK614.out) hb); have n4_ := Aside0.mk (blk_below (g := gb628) (o := .cells #[.int .i64 t618, .int .i64 t619, .int .i64 t620, .int .i64 t621, .string t622, .int .i64 t623, .slice Ao20 t624.length co20] 33 (0, 0)) (by (with_reducible repeat (first | refine blk_drewN ?_ _ | refine blk_drew ?_ | refine blk_alloc ?_ _)); exact BK628.out) hb); have n5_ := Aside0.mk (below_step (by repeat (first | (with_reducible first | exact HB.out | apply below_alloc | apply pw_below_drewN | apply below_drew1 | refine below_set ?_ GE614.out | refine below_set ?_ GE628.out) | exact HB.out)) hb); clear HO_615006; clear HO_629006; clear BK614; clear BK628; clear HB; have HO_615006 := n0_; have HO_629006 := n1_; have HO642 := n2_; have BK614 := n3_; have BK628 := n4_; have HB := n5_; clear n0_ n1_ n2_ n3_ n4_ n5_; (try clear hb); (try clear hb2); (try clear hk); (try clear hi); (try clear ho0); obtain ⟨Ao65, co65, eo65⟩ := Kd.R_slice HO642.out; subst eo65) | ((with_reducible refine gate_callee (f := 28) rfl ?_); refine goesL_ (some 73) rfl rfl Try.func28 (by kernel_rfl) rfl #[.slice Ao65 t640.length co65] rfl (by (try simp only [List.map_toArray, List.map_cons, List.map_nil]); first | done | rfl | (simp only [List.length_drop, List.length_take]; rfl)) ?_; (with_reducible refine (impl_GetMsg.calls kj35 _ _ t640 t643 t644 t645 t646 t647 t648 t649 t652 _ ?side1 ?side2 A57.out).mono ?_); (case side1 => repeat (first | exact (Kd.R_reads' HO642.out).2.2 | (with_reducible refine Kd.C_alloc ?_ _) | (with_reducible refine Kd.C_drewN ?_ _) | (with_reducible refine Kd.C_drew ?_))); (case side2 => exact (Kd.R_reads' HO642.out).2.1); rintro e w66 ⟨v650, rfl, ho0, hb⟩; refine ⟨_, rfl, ?_⟩; have n0_ := Aside0.mk (Kd.R_elder' (by (with_reducible repeat (first | apply Kd.R_alloc | apply Kd.R_drewN | apply Kd.R_drew)); exact HO_615006.out) (Kd.R_base ho0) hb); have n1_ := Aside0.mk (Kd.R_elder' (by (with_reducible repeat (first | apply Kd.R_alloc | apply Kd.R_drewN | apply Kd.R_drew)); exact HO_629006.out) (Kd.R_base ho0) hb); have n2_ := Aside0.mk (Kd.R_below (by (with_reducible repeat (first | apply Kd.R_alloc | apply Kd.R_drewN | apply Kd.R_drew)); exact HO642.out) hb); have n3_ := Aside0.mk (Kd.R_lower (Kd.R_new' (Kd.R_new' ho0 (Kd.R_lt (by (with_reducible repeat (first | apply Kd.R_alloc | apply Kd.R_drewN | apply Kd.R_drew)); exact HO_615006.out))) (Kd.R_lt (by (with_reducible repeat (first | apply Kd.R_alloc | apply Kd.R_drewN | apply Kd.R_drew)); exact HO_629006.out))) (below_size (by repeat (first | (with_reducible first | exact HB.out | apply below_alloc | apply pw_below_drewN | apply below_drew1 | refine below_set ?_ GE614.out | refine below_set ?_ GE628.out) | exact HB.out)))); have n4_ := Aside0.mk (blk_below (g := gb614) (o := .cells #[.int .i64 t604, .int .i64 t605, .int .i64 t606, .int .i64 t607, .string t608, .int .i64 t609, .slice Ao13 t610.length co13] 33 (0, 0)) (by (with_reducible repeat (first | refine blk_drewN ?_ _ | refine blk_drew ?_ | refine blk_alloc ?_ _)); exact BK614.out) hb); have n5_ := Aside0.mk (blk_below (g := gb628) (o := .cells #[.int .i64 t618, .int .i64 t619, .int .i64 t620, .int .i64 t621, .string t622, .int .i64 t623, .slice Ao20 t624.length co20] 33 (0, 0)) (by (with_reducible repeat (first | refine blk_drewN ?_ _ | refine blk_drew ?_ | refine blk_alloc ?_ _)); exact BK628.out) hb); have n6_ := Aside0.mk (below_step (by repeat (first | (with_reducible first | exact HB.out | apply below_alloc | apply pw_below_drewN | apply below_drew1 | refine below_set ?_ GE614.out | refine below_set ?_ GE628.out) | exact HB.out)) hb); clear HO_615006; clear HO_629006; clear HO642; clear BK614; clear BK628; clear HB; have HO_615006 := n0_; have HO_629006 := n1_; have HO642 := n2_; have HO651 := n3_; have BK614 := n4_; have BK628 := n5_; have HB := n6_; clear n0_ n1_ n2_ n3_ n4_ n5_ n6_; (try clear hb); (try clear hb2); (try clear hk); (try clear hi); (try clear ho0)) | ((with_reducible refine gate_dst (N := 11) rfl ?_); refine box_event ?hg (N := 11) ?hd (cs := #[.int .i64 0, .int .i64 0, .int .i64 0, .int .i64 0, .string (⟨#[]⟩ : ByteArray), .int .i64 0, .slice none 0 0]) (t := 33) ?hr ?_; (case hd => rfl); (case hg => rfl); (case hr => first | (go_simp; done) | (go_simp; rfl)); intro gb653 hg w67 hbox hb; have n0_ := Aside0.mk (Kd.R_below (by (with_reducible repeat (first | apply Kd.R_alloc | apply Kd.R_drewN | apply Kd.R_drew)); exact HO_615006.out) hb); have n1_ := Aside0.mk (Kd.R_below (by (with_reducible repeat (first | apply Kd.R_alloc | apply Kd.R_drewN | apply Kd.R_drew)); exact HO_629006.out) hb); have n2_ := Aside0.mk (Kd.R_below (by (with_reducible repeat (first | apply Kd.R_alloc | apply Kd.R_drewN | apply Kd.R_drew)); exact HO642.out) hb); have n3_ := Aside0.mk (Kd.R_below (by (with_reducible repeat (first | apply Kd.R_alloc | apply Kd.R_drewN | apply Kd.R_drew)); exact HO651.out) hb); have n4_ := Aside0.mk (blk_below (g := gb614) (o := .cells #[.int .i64 t604, .int .i64 t605, .int .i64 t606, .int .i64 t607, .string t608, .int .i64 t609, .slice Ao13 t610.length co13] 33 (0, 0)) (by (with_reducible repeat (first | refine blk_drewN ?_ _ | refine blk_drew ?_ | refine blk_alloc ?_ _)); exact BK614.out) hb); have n5_ := Aside0.mk (blk_below (g := gb628) (o := .cells #[.int .i64 t618, .int .i64 t619, .int .i64 t620, .int .i64 t621, .string t622, .int .i64 t623, .slice Ao20 t624.length co20] 33 (0, 0)) (by (with_reducible repeat (first | refine blk_drewN ?_ _ | refine blk_drew ?_ | refine blk_alloc ?_ _)); exact BK628.out) hb); have n6_ := Aside0.mk (below_step (by repeat (first | (with_reducible first | exact HB.out | apply below_alloc | apply pw_below_drewN | apply below_drew1 | refine below_set ?_ GE614.out | refine below_set ?_ GE628.out) | exact HB.out)) hb); have n7_ := Aside0.mk (hbox); have n8_ := Aside0.mk ((by rw [hg]; exact (below_size (by repeat (first | (with_reducible first | exact HB.out | apply below_alloc | apply pw_below_drewN | apply below_drew1 | refine below_set ?_ GE614.out | refine below_set ?_ GE628.out) | exact HB.out))) : w.heap.size ≤ gb653)); have n9_ := Aside0.mk ((by rw [hg]; exact (below_size (by repeat (first | (with_reducible first | exact HB.out | apply below_alloc | apply pw_below_drewN | apply below_drew1 | refine below_set ?_ GE614.out | refine below_set ?_ GE628.out) | exact HB.out))) : w.heap.size ≤ gb653)); have n10_ := Aside0.mk ((by rw [hg]; exact Nat.ne_of_lt (blk_lt (g := gb614) (o := .cells #[.int .i64 t604, .int .i64 t605, .int .i64 t606, .int .i64 t607, .string t608, .int .i64 t609, .slice Ao13 t610.length co13] 33 (0, 0)) (by (with_reducible repeat (first | refine blk_drewN ?_ _ | refine blk_drew ?_ | refine blk_alloc ?_ _)); exact BK614.out)) : gb614 ≠ gb653)); have n11_ := Aside0.mk ((by rw [hg]; exact Nat.ne_of_gt (blk_lt (g := gb614) (o := .cells #[.int .i64 t604, .int .i64 t605, .int .i64 t606, .int .i64 t607, .string t608, .int .i64 t609, .slice Ao13 t610.length co13] 33 (0, 0)) (by (with_reducible repeat (first | refine blk_drewN ?_ _ | refine blk_drew ?_ | refine blk_alloc ?_ _)); exact BK614.out)) : gb653 ≠ gb614)); have n12_ := Aside0.mk ((by rw [hg]; exact Nat.ne_of_lt (blk_lt (g := gb628) (o := .cells #[.int .i64 t618, .int .i64 t619, .int .i64 t620, .int .i64 t621, .string t622, .int .i64 t623, .slice Ao20 t624.length co20] 33 (0, 0)) (by (with_reducible repeat (first | refine blk_drewN ?_ _ | refine blk_drew ?_ | refine blk_alloc ?_ _)); exact BK628.out)) : gb628 ≠ gb653)); have n13_ := Aside0.mk ((by rw [hg]; exact Nat.ne_of_gt (blk_lt (g := gb628) (o := .cells #[.int .i64 t618, .int .i64 t619, .int .i64 t620, .int .i64 t621, .string t622, .int .i64 t623, .slice Ao20 t624.length co20] 33 (0, 0)) (by (with_reducible repeat (first | refine blk_drewN ?_ _ | refine blk_drew ?_ | refine blk_alloc ?_ _)); exact BK628.out)) : gb653 ≠ gb628)); clear HO_615006; clear HO_629006; clear HO642; clear HO651; clear BK614; clear BK628; clear HB; have HO_615006 := n0_; have HO_629006 := n1_; have HO642 := n2_; have HO651 := n3_; have BK614 := n4_; have BK628 := n5_; have HB := n6_; have BK653 := n7_; have GW653 := n8_; have GE653 := n9_; have NB614_653 := n10_; have NB653_614 := n11_; have NB628_653 := n12_; have NB653_628 := n13_; clear n0_ n1_ n2_ n3_ n4_ n5_ n6_ n7_ n8_ n9_ n10_ n11_ n12_ n13_; clear hb hbox hg; have hnb68 := NB653_614.out; have hnc68 := NB614_653.out; have hnb69 := NB653_628.out; have hnc69 := NB628_653.out; have hcz70_0 : w67.cell? ⟨gb653, 0, none⟩ = some (.int .i64 0) := (blk_cell BK653.out 0).trans rfl; have hcz70_1 : w67.cell? ⟨gb653, 1, none⟩ = some (.int .i64 0) := (blk_cell BK653.out 1).trans rfl; have hcz70_2 : w67.cell? ⟨gb653, 2, none⟩ = some (.int .i64 0) := (blk_cell BK653.out 2).trans rfl; have hcz70_3 : w67.cell? ⟨gb653, 3, none⟩ = some (.int .i64 0) := (blk_cell BK653.out 3).trans rfl; have hcz70_4 : w67.cell? ⟨gb653, 4, none⟩ = some (.string (⟨#[]⟩ : ByteArray)) := (blk_cell BK653.out 4).trans rfl; have hcz70_5 : w67.cell? ⟨gb653, 5, none⟩ = some (.int .i64 0) := (blk_cell BK653.out 5).trans rfl; have hcz70_6 : w67.cell? ⟨gb653, 6, none⟩ = some (.slice none 0 0) := (blk_cell BK653.out 6).trans rfl; have hfz70_0 := blk_frozen BK653.out 0; have hfz70_1 := blk_frozen BK653.out 1; have hfz70_2 := blk_frozen BK653.out 2; have hfz70_3 := blk_frozen BK653.out 3; have hfz70_4 := blk_frozen BK653.out 4; have hfz70_5 := blk_frozen BK653.out 5; have hfz70_6 := blk_frozen BK653.out 6; obtain ⟨Ao71, co71, eo71⟩ := Kd.R_slice HO651.out; subst eo71))
           (try simp only [Act.put, List.setIfInBounds_toArray, List.set_cons_zero, List.set_cons_succ])
           go_cut [84] (fun v84 wc => ∃ (kq : Nat) (x84_57 : Bool), v84 = .bool x84_57 ∧ Aside0 (laws_FnExactGetMsg.j2 kq t637 x84_57 t618 t619 t620 t621 t622 t623 t638 = some r) ∧ Aside0 (kq ≤ kj35) ∧ Aside0 (Kd.R Kd.string 9 wc w.heap.size (fun k_ => some k_ ≠ ((.slice Ao20 t624.length co20) : Value).ownBlock ∧ some k_ ≠ ((.slice Ao71 t649.length co71) : Value).ownBlock) (.slice Ao13 t610.length co13) t610) ∧ Aside0 (Kd.R Kd.string 9 wc w.heap.size (fun k_ => some k_ ≠ ((.slice Ao13 t610.length co13) : Value).ownBlock ∧ some k_ ≠ ((.slice Ao71 t649.length co71) : Value).ownBlock) (.slice Ao20 t624.length co20) t638) ∧ Aside0 (Kd.R Kd.string 9 wc w.heap.size (fun k_ => some k_ ≠ ((.slice Ao13 t610.length co13) : Value).ownBlock ∧ some k_ ≠ ((.slice Ao20 t624.length co20) : Value).ownBlock) (.slice Ao71 t649.length co71) t649) ∧ Aside0 (wc.heap[gb614]? = some (.cells #[.int .i64 t604, .int .i64 t605, .int .i64 t606, .int .i64 t607, .string t608, .int .i64 t609, (.slice Ao13 t610.length co13)] 33 (0, 0))) ∧ Aside0 (wc.heap[gb628]? = some (.cells #[.int .i64 t618, .int .i64 t619, .int .i64 t620, .int .i64 t621, .string t622, .int .i64 t623, (.slice Ao20 t624.length co20)] 33 (0, 0))) ∧ Aside0 (wc.heap[gb653]? = some (.cells #[.int .i64 t643, .int .i64 t644, .int .i64 t645, .int .i64 t646, .string t647, .int .i64 t648, (.slice Ao71 t649.length co71)] 33 (0, 0))) ∧ Aside0 (Below w.heap.size w wc))
           case first =>
            have H := HC58.out
            clear HC58
            replace H := Option.bind_eq_some_iff.mp H
            obtain ⟨t654, A720, H⟩ := H
            replace H : (if t654 = true then (laws_FnExactGetMsg.j2 kj35 t637 (t652 != t613) t618 t619 t620 t621 t622 t623 t638) else (laws_FnExactGetMsg.j2 kj35 t637 true t618 t619 t620 t621 t622 t623 t638)) = some r := H
            have A72 := Aside0.mk A720
            clear A720
            by_cases c73 : t654 = true
            ·subst c73
             have H1 : (laws_FnExactGetMsg.j2 kj35 t637 (t652 != t613) t618 t619 t620 t621 t622 t623 t638) = some r := by rw [if_pos rfl] at H; exact H
             clear H
             have H := H1
             clear H1
             have H' := Aside0.mk H
             clear H
             have hnb74 := NB653_614.out
             have hnc74 := NB614_653.out
             have hnb75 := NB653_628.out
             have hnc75 := NB628_653.out
             have hcz76_0 : w67.cell? ⟨gb653, 0, none⟩ = some (.int .i64 0) := (blk_cell BK653.out 0).trans rfl
             have hcz76_1 : w67.cell? ⟨gb653, 1, none⟩ = some (.int .i64 0) := (blk_cell BK653.out 1).trans rfl
             have hcz76_2 : w67.cell? ⟨gb653, 2, none⟩ = some (.int .i64 0) := (blk_cell BK653.out 2).trans rfl
             have hcz76_3 : w67.cell? ⟨gb653, 3, none⟩ = some (.int .i64 0) := (blk_cell BK653.out 3).trans rfl
             have hcz76_4 : w67.cell? ⟨gb653, 4, none⟩ = some (.string (⟨#[]⟩ : ByteArray)) := (blk_cell BK653.out 4).trans rfl
             have hcz76_5 : w67.cell? ⟨gb653, 5, none⟩ = some (.int .i64 0) := (blk_cell BK653.out 5).trans rfl
             have hcz76_6 : w67.cell? ⟨gb653, 6, none⟩ = some (.slice none 0 0) := (blk_cell BK653.out 6).trans rfl
             have hfz76_0 := blk_frozen BK653.out 0
             have hfz76_1 := blk_frozen BK653.out 1
             have hfz76_2 := blk_frozen BK653.out 2
             have hfz76_3 := blk_frozen BK653.out 3
             have hfz76_4 := blk_frozen BK653.out 4
             have hfz76_5 := blk_frozen BK653.out 5
             have hfz76_6 := blk_frozen BK653.out 6
             have hnb77 := NB614_628.out
             have hnc77 := NB628_614.out
             have hcz78_0 : w67.cell? ⟨gb614, 0, none⟩ = some (.int .i64 t604) := (blk_cell BK614.out 0).trans rfl
             have hcz78_1 : w67.cell? ⟨gb614, 1, none⟩ = some (.int .i64 t605) := (blk_cell BK614.out 1).trans rfl
             have hcz78_2 : w67.cell? ⟨gb614, 2, none⟩ = some (.int .i64 t606) := (blk_cell BK614.out 2).trans rfl
             have hcz78_3 : w67.cell? ⟨gb614, 3, none⟩ = some (.int .i64 t607) := (blk_cell BK614.out 3).trans rfl
             have hcz78_4 : w67.cell? ⟨gb614, 4, none⟩ = some (.string t608) := (blk_cell BK614.out 4).trans rfl
             have hcz78_5 : w67.cell? ⟨gb614, 5, none⟩ = some (.int .i64 t609) := (blk_cell BK614.out 5).trans rfl
             have hcz78_6 : w67.cell? ⟨gb614, 6, none⟩ = some (.slice Ao13 t610.length co13) := (blk_cell BK614.out 6).trans rfl
             have hfz78_0 := blk_frozen BK614.out 0
             have hfz78_1 := blk_frozen BK614.out 1
             have hfz78_2 := blk_frozen BK614.out 2
             have hfz78_3 := blk_frozen BK614.out 3
             have hfz78_4 := blk_frozen BK614.out 4
             have hfz78_5 := blk_frozen BK614.out 5
             have hfz78_6 := blk_frozen BK614.out 6
             go_wp2_with (first | ((with_reducible refine gate_callee (f := 22) rfl ?_); refine goesL_ (some 78) rfl rfl Try.func22 (by kernel_rfl) rfl #[.agg #[.int .i64 t643, .int .i64 t644, .int .i64 t645, .int .i64 t646, .string t647, .int .i64 t648, .slice Ao71 t649.length co71], .agg #[.int .i64 t604, .int .i64 t605, .int .i64 t606, .int .i64 t607, .string t608, .int .i64 t609, .slice Ao13 t610.length co13]] rfl (by (try simp only [List.map_toArray, List.map_cons, List.map_nil]); first | done | rfl | (simp only [List.length_drop, List.length_take]; rfl)) ?_; (with_reducible refine (laws_eqMsg.calls kj35 t643 t644 t645 t646 t647 t648 _ _ t649 t604 t605 t606 t607 t608 t609 _ _ t610 true _ ?side1 ?side2 ?side3 ?side4 A72.out).mono ?_); (case side1 => refine (Kd.R_reads' (e := 9) (base := w.heap.size) (ok := fun k_ => ((True ∧ some k_ ≠ (.slice Ao13 t610.length co13 : Value).ownBlock) ∧ some k_ ≠ (.slice Ao20 t624.length co20 : Value).ownBlock)) (n := t649.length) (c := co71) ?_).2.2; exact (by (with_reducible repeat (first | apply Kd.R_alloc | apply Kd.R_drewN | apply Kd.R_drew)); exact (Kd.R_mono (Kd.R_far (p := ⟨gb653, 6, none⟩) (Kd.R_far (p := ⟨gb653, 5, none⟩) (Kd.R_far (p := ⟨gb653, 4, none⟩) (Kd.R_far (p := ⟨gb653, 3, none⟩) (Kd.R_far (p := ⟨gb653, 2, none⟩) (Kd.R_far (p := ⟨gb653, 1, none⟩) (Kd.R_far (p := ⟨gb653, 0, none⟩) (Kd.R_types HO651.out BK653.out (by decide)) (fun _ hk => hk.2) (.int .i64 t643)) (fun _ hk => hk.2) (.int .i64 t644)) (fun _ hk => hk.2) (.int .i64 t645)) (fun _ hk => hk.2) (.int .i64 t646)) (fun _ hk => hk.2) (.string t647)) (fun _ hk => hk.2) (.int .i64 t648)) (fun _ hk => hk.2) (.slice Ao71 t649.length co71)) (fun _ h_ => h_.1)))); (case side2 => exact (Kd.R_reads' HO651.out).2.1); (case side3 => refine (Kd.R_reads' (e := 9) (base := w.heap.size) (ok := fun k_ => (some k_ ≠ (.slice Ao20 t624.length co20 : Value).ownBlock ∧ some k_ ≠ (.slice Ao71 t649.length co71 : Value).ownBlock)) (n := t610.length) (c := co13) ?_).2.2; exact (by (with_reducible repeat (first | apply Kd.R_alloc | apply Kd.R_drewN | apply Kd.R_drew)); exact (Kd.R_mono (Kd.R_far (p := ⟨gb653, 6, none⟩) (Kd.R_far (p := ⟨gb653, 5, none⟩) (Kd.R_far (p := ⟨gb653, 4, none⟩) (Kd.R_far (p := ⟨gb653, 3, none⟩) (Kd.R_far (p := ⟨gb653, 2, none⟩) (Kd.R_far (p := ⟨gb653, 1, none⟩) (Kd.R_far (p := ⟨gb653, 0, none⟩) (Kd.R_types HO_615006.out BK653.out (by decide)) (fun _ hk => hk.2) (.int .i64 t643)) (fun _ hk => hk.2) (.int .i64 t644)) (fun _ hk => hk.2) (.int .i64 t645)) (fun _ hk => hk.2) (.int .i64 t646)) (fun _ hk => hk.2) (.string t647)) (fun _ hk => hk.2) (.int .i64 t648)) (fun _ hk => hk.2) (.slice Ao71 t649.length co71)) (fun _ h_ => h_.1)))); (case side4 => exact (Kd.R_reads' HO_615006.out).2.1); rintro e w79 ⟨rfl, hb⟩; refine ⟨_, rfl, ?_⟩; have n0_ := Aside0.mk (Kd.R_below (by (with_reducible repeat (first | apply Kd.R_alloc | apply Kd.R_drewN | apply Kd.R_drew)); exact (Kd.R_mono (Kd.R_far (p := ⟨gb653, 6, none⟩) (Kd.R_far (p := ⟨gb653, 5, none⟩) (Kd.R_far (p := ⟨gb653, 4, none⟩) (Kd.R_far (p := ⟨gb653, 3, none⟩) (Kd.R_far (p := ⟨gb653, 2, none⟩) (Kd.R_far (p := ⟨gb653, 1, none⟩) (Kd.R_far (p := ⟨gb653, 0, none⟩) (Kd.R_types HO_615006.out BK653.out (by decide)) (fun _ hk => hk.2) (.int .i64 t643)) (fun _ hk => hk.2) (.int .i64 t644)) (fun _ hk => hk.2) (.int .i64 t645)) (fun _ hk => hk.2) (.int .i64 t646)) (fun _ hk => hk.2) (.string t647)) (fun _ hk => hk.2) (.int .i64 t648)) (fun _ hk => hk.2) (.slice Ao71 t649.length co71)) (fun _ h_ => h_.1))) hb); have n1_ := Aside0.mk (Kd.R_below (by (with_reducible repeat (first | apply Kd.R_alloc | apply Kd.R_drewN | apply Kd.R_drew)); exact (Kd.R_mono (Kd.R_far (p := ⟨gb653, 6, none⟩) (Kd.R_far (p := ⟨gb653, 5, none⟩) (Kd.R_far (p := ⟨gb653, 4, none⟩) (Kd.R_far (p := ⟨gb653, 3, none⟩) (Kd.R_far (p := ⟨gb653, 2, none⟩) (Kd.R_far (p := ⟨gb653, 1, none⟩) (Kd.R_far (p := ⟨gb653, 0, none⟩) (Kd.R_types HO_629006.out BK653.out (by decide)) (fun _ hk => hk.2) (.int .i64 t643)) (fun _ hk => hk.2) (.int .i64 t644)) (fun _ hk => hk.2) (.int .i64 t645)) (fun _ hk => hk.2) (.int .i64 t646)) (fun _ hk => hk.2) (.string t647)) (fun _ hk => hk.2) (.int .i64 t648)) (fun _ hk => hk.2) (.slice Ao71 t649.length co71)) (fun _ h_ => h_.1))) hb); have n2_ := Aside0.mk (Kd.R_below (by (with_reducible repeat (first | apply Kd.R_alloc | apply Kd.R_drewN | apply Kd.R_drew)); exact (Kd.R_mono (Kd.R_far (p := ⟨gb653, 6, none⟩) (Kd.R_far (p := ⟨gb653, 5, none⟩) (Kd.R_far (p := ⟨gb653, 4, none⟩) (Kd.R_far (p := ⟨gb653, 3, none⟩) (Kd.R_far (p := ⟨gb653, 2, none⟩) (Kd.R_far (p := ⟨gb653, 1, none⟩) (Kd.R_far (p := ⟨gb653, 0, none⟩) (Kd.R_types HO642.out BK653.out (by decide)) (fun _ hk => hk.2) (.int .i64 t643)) (fun _ hk => hk.2) (.int .i64 t644)) (fun _ hk => hk.2) (.int .i64 t645)) (fun _ hk => hk.2) (.int .i64 t646)) (fun _ hk => hk.2) (.string t647)) (fun _ hk => hk.2) (.int .i64 t648)) (fun _ hk => hk.2) (.slice Ao71 t649.length co71)) (fun _ h_ => h_.1))) hb); have n3_ := Aside0.mk (Kd.R_below (by (with_reducible repeat (first | apply Kd.R_alloc | apply Kd.R_drewN | apply Kd.R_drew)); exact (Kd.R_mono (Kd.R_far (p := ⟨gb653, 6, none⟩) (Kd.R_far (p := ⟨gb653, 5, none⟩) (Kd.R_far (p := ⟨gb653, 4, none⟩) (Kd.R_far (p := ⟨gb653, 3, none⟩) (Kd.R_far (p := ⟨gb653, 2, none⟩) (Kd.R_far (p := ⟨gb653, 1, none⟩) (Kd.R_far (p := ⟨gb653, 0, none⟩) (Kd.R_types HO651.out BK653.out (by decide)) (fun _ hk => hk.2) (.int .i64 t643)) (fun _ hk => hk.2) (.int .i64 t644)) (fun _ hk => hk.2) (.int .i64 t645)) (fun _ hk => hk.2) (.int .i64 t646)) (fun _ hk => hk.2) (.string t647)) (fun _ hk => hk.2) (.int .i64 t648)) (fun _ hk => hk.2) (.slice Ao71 t649.length co71)) (fun _ h_ => h_.1))) hb); have n4_ := Aside0.mk (blk_below (g := gb614) (o := .cells #[.int .i64 t604, .int .i64 t605, .int .i64 t606, .int .i64 t607, .string t608, .int .i64 t609, .slice Ao13 t610.length co13] 33 (0, 0)) (by (with_reducible repeat (first | refine blk_drewN ?_ _ | refine blk_drew ?_ | refine blk_alloc ?_ _)); refine blk_far ?_ NB614_653.out _; (with_reducible repeat (first | refine blk_drewN ?_ _ | refine blk_drew ?_ | refine blk_alloc ?_ _)); refine blk_far ?_ NB614_653.out _; (with_reducible repeat (first | refine blk_drewN ?_ _ | refine blk_drew ?_ | refine blk_alloc ?_ _)); refine blk_far ?_ NB614_653.out _; (with_reducible repeat (first | refine blk_drewN ?_ _ | refine blk_drew ?_ | refine blk_alloc ?_ _)); refine blk_far ?_ NB614_653.out _; (with_reducible repeat (first | refine blk_drewN ?_ _ | refine blk_drew ?_ | refine blk_alloc ?_ _)); refine blk_far ?_ NB614_653.out _; (with_reducible repeat (first | refine blk_drewN ?_ _ | refine blk_drew ?_ | refine blk_alloc ?_ _)); refine blk_far ?_ NB614_653.out _; (with_reducible repeat (first | refine blk_drewN ?_ _ | refine blk_drew ?_ | refine blk_alloc ?_ _)); refine blk_far ?_ NB614_653.out _; (with_reducible repeat (first | refine blk_drewN ?_ _ | refine blk_drew ?_ | refine blk_alloc ?_ _)); exact BK614.out) hb); have n5_ := Aside0.mk (blk_below (g := gb628) (o := .cells #[.int .i64 t618, .int .i64 t619, .int .i64 t620, .int .i64 t621, .string t622, .int .i64 t623, .slice Ao20 t624.length co20] 33 (0, 0)) (by (with_reducible repeat (first | refine blk_drewN ?_ _ | refine blk_drew ?_ | refine blk_alloc ?_ _)); refine blk_far ?_ NB628_653.out _; (with_reducible repeat (first | refine blk_drewN ?_ _ | refine blk_drew ?_ | refine blk_alloc ?_ _)); refine blk_far ?_ NB628_653.out _; (with_reducible repeat (first | refine blk_drewN ?_ _ | refine blk_drew ?_ | refine blk_alloc ?_ _)); refine blk_far ?_ NB628_653.out _; (with_reducible repeat (first | refine blk_drewN ?_ _ | refine blk_drew ?_ | refine blk_alloc ?_ _)); refine blk_far ?_ NB628_653.out _; (with_reducible repeat (first | refine blk_drewN ?_ _ | refine blk_drew ?_ | refine blk_alloc ?_ _)); refine blk_far ?_ NB628_653.out _; (with_reducible repeat (first | refine blk_drewN ?_ _ | refine blk_drew ?_ | refine blk_alloc ?_ _)); refine blk_far ?_ NB628_653.out _; (with_reducible repeat (first | refine blk_drewN ?_ _ | refine blk_drew ?_ | refine blk_alloc ?_ _)); refine blk_far ?_ NB628_653.out _; (with_reducible repeat (first | refine blk_drewN ?_ _ | refine blk_drew ?_ | refine blk_alloc ?_ _)); exact BK628.out) hb); have n6_ := Aside0.mk (blk_below (g := gb653) (o := .cells #[.int .i64 t643, .int .i64 t644, .int .i64 t645, .int .i64 t646, .string t647, .int .i64 t648, .slice Ao71 t649.length co71] 33 (0, 0)) (by (with_reducible repeat (first | refine blk_drewN ?_ _ | refine blk_drew ?_ | refine blk_alloc ?_ _)); refine blk_put (cs := #[.int .i64 t643, .int .i64 t644, .int .i64 t645, .int .i64 t646, .string t647, .int .i64 t648, .slice none 0 0]) ?_ 6 _ rfl; (with_reducible repeat (first | refine blk_drewN ?_ _ | refine blk_drew ?_ | refine blk_alloc ?_ _)); refine blk_put (cs := #[.int .i64 t643, .int .i64 t644, .int .i64 t645, .int .i64 t646, .string t647, .int .i64 0, .slice none 0 0]) ?_ 5 _ rfl; (with_reducible repeat (first | refine blk_drewN ?_ _ | refine blk_drew ?_ | refine blk_alloc ?_ _)); refine blk_put (cs := #[.int .i64 t643, .int .i64 t644, .int .i64 t645, .int .i64 t646, .string (⟨#[]⟩ : ByteArray), .int .i64 0, .slice none 0 0]) ?_ 4 _ rfl; (with_reducible repeat (first | refine blk_drewN ?_ _ | refine blk_drew ?_ | refine blk_alloc ?_ _)); refine blk_put (cs := #[.int .i64 t643, .int .i64 t644, .int .i64 t645, .int .i64 0, .string (⟨#[]⟩ : ByteArray), .int .i64 0, .slice none 0 0]) ?_ 3 _ rfl; (with_reducible repeat (first | refine blk_drewN ?_ _ | refine blk_drew ?_ | refine blk_alloc ?_ _)); refine blk_put (cs := #[.int .i64 t643, .int .i64 t644, .int .i64 0, .int .i64 0, .string (⟨#[]⟩ : ByteArray), .int .i64 0, .slice none 0 0]) ?_ 2 _ rfl; (with_reducible repeat (first | refine blk_drewN ?_ _ | refine blk_drew ?_ | refine blk_alloc ?_ _)); refine blk_put (cs := #[.int .i64 t643, .int .i64 0, .int .i64 0, .int .i64 0, .string (⟨#[]⟩ : ByteArray), .int .i64 0, .slice none 0 0]) ?_ 1 _ rfl; (with_reducible repeat (first | refine blk_drewN ?_ _ | refine blk_drew ?_ | refine blk_alloc ?_ _)); refine blk_put (cs := #[.int .i64 0, .int .i64 0, .int .i64 0, .int .i64 0, .string (⟨#[]⟩ : ByteArray), .int .i64 0, .slice none 0 0]) ?_ 0 _ rfl; (with_reducible repeat (first | refine blk_drewN ?_ _ | refine blk_drew ?_ | refine blk_alloc ?_ _)); exact BK653.out) hb); have n7_ := Aside0.mk (below_step (by repeat (first | (with_reducible first | exact HB.out | apply below_alloc | apply pw_below_drewN | apply below_drew1 | refine below_set ?_ GE614.out | refine below_set ?_ GE628.out | refine below_set ?_ GE653.out) | exact HB.out)) hb); clear HO_615006; clear HO_629006; clear HO642; clear HO651; clear BK614; clear BK628; clear BK653; clear HB; have HO_615006 := n0_; have HO_629006 := n1_; have HO642 := n2_; have HO651 := n3_; have BK614 := n4_; have BK628 := n5_; have BK653 := n6_; have HB := n7_; clear n0_ n1_ n2_ n3_ n4_ n5_ n6_ n7_; (try clear hb); (try clear hb2); (try clear hk); (try clear hi)))
             go_meet
             case rel => exact ⟨_, ((t652 != t613)), (by first | rfl | (simp; done) | (simp [*]; done)), H', ⟨by have := HJ6.out; have := HJ35.out; first | omega | exact Nat.le_refl _⟩, ⟨by (with_reducible repeat (first | apply Kd.R_alloc | apply Kd.R_drewN | apply Kd.R_drew)); exact HO_615006.out⟩, ⟨by (with_reducible repeat (first | apply Kd.R_alloc | apply Kd.R_drewN | apply Kd.R_drew)); exact HO_629006.out⟩, ⟨by (with_reducible repeat (first | apply Kd.R_alloc | apply Kd.R_drewN | apply Kd.R_drew)); exact Kd.R_mono HO651.out (fun _ hk => ⟨hk.1.2, hk.2⟩)⟩, ⟨by (with_reducible repeat (first | refine blk_drewN ?_ _ | refine blk_drew ?_ | refine blk_alloc ?_ _)); exact BK614.out⟩, ⟨by (with_reducible repeat (first | refine blk_drewN ?_ _ | refine blk_drew ?_ | refine blk_alloc ?_ _)); exact BK628.out⟩, ⟨by (with_reducible repeat (first | refine blk_drewN ?_ _ | refine blk_drew ?_ | refine blk_alloc ?_ _)); exact BK653.out⟩, ⟨by repeat (first | (with_reducible first | exact HB.out | apply below_alloc | apply pw_below_drewN | apply below_drew1 | refine below_set ?_ GE614.out | refine below_set ?_ GE628.out | refine below_set ?_ GE653.out) | exact HB.out)⟩⟩
            ·replace c73 := Bool.eq_false_iff.mpr c73
             subst c73
             have H1 : (laws_FnExactGetMsg.j2 kj35 t637 true t618 t619 t620 t621 t622 t623 t638) = some r := by rw [if_neg (show ¬ (false = true) by decide)] at H; exact H
             clear H
             have H := H1
             clear H1
             have H' := Aside0.mk H
             clear H
             have hnb80 := NB653_614.out
             have hnc80 := NB614_653.out
             have hnb81 := NB653_628.out
             have hnc81 := NB628_653.out
             have hcz82_0 : w67.cell? ⟨gb653, 0, none⟩ = some (.int .i64 0) := (blk_cell BK653.out 0).trans rfl
             have hcz82_1 : w67.cell? ⟨gb653, 1, none⟩ = some (.int .i64 0) := (blk_cell BK653.out 1).trans rfl
             have hcz82_2 : w67.cell? ⟨gb653, 2, none⟩ = some (.int .i64 0) := (blk_cell BK653.out 2).trans rfl
             have hcz82_3 : w67.cell? ⟨gb653, 3, none⟩ = some (.int .i64 0) := (blk_cell BK653.out 3).trans rfl
             have hcz82_4 : w67.cell? ⟨gb653, 4, none⟩ = some (.string (⟨#[]⟩ : ByteArray)) := (blk_cell BK653.out 4).trans rfl
             have hcz82_5 : w67.cell? ⟨gb653, 5, none⟩ = some (.int .i64 0) := (blk_cell BK653.out 5).trans rfl
             have hcz82_6 : w67.cell? ⟨gb653, 6, none⟩ = some (.slice none 0 0) := (blk_cell BK653.out 6).trans rfl
             have hfz82_0 := blk_frozen BK653.out 0
             have hfz82_1 := blk_frozen BK653.out 1
             have hfz82_2 := blk_frozen BK653.out 2
             have hfz82_3 := blk_frozen BK653.out 3
             have hfz82_4 := blk_frozen BK653.out 4
             have hfz82_5 := blk_frozen BK653.out 5
             have hfz82_6 := blk_frozen BK653.out 6
             have hnb83 := NB614_628.out
             have hnc83 := NB628_614.out
             have hcz84_0 : w67.cell? ⟨gb614, 0, none⟩ = some (.int .i64 t604) := (blk_cell BK614.out 0).trans rfl
             have hcz84_1 : w67.cell? ⟨gb614, 1, none⟩ = some (.int .i64 t605) := (blk_cell BK614.out 1).trans rfl
             have hcz84_2 : w67.cell? ⟨gb614, 2, none⟩ = some (.int .i64 t606) := (blk_cell BK614.out 2).trans rfl
             have hcz84_3 : w67.cell? ⟨gb614, 3, none⟩ = some (.int .i64 t607) := (blk_cell BK614.out 3).trans rfl
             have hcz84_4 : w67.cell? ⟨gb614, 4, none⟩ = some (.string t608) := (blk_cell BK614.out 4).trans rfl
             have hcz84_5 : w67.cell? ⟨gb614, 5, none⟩ = some (.int .i64 t609) := (blk_cell BK614.out 5).trans rfl
             have hcz84_6 : w67.cell? ⟨gb614, 6, none⟩ = some (.slice Ao13 t610.length co13) := (blk_cell BK614.out 6).trans rfl
             have hfz84_0 := blk_frozen BK614.out 0
             have hfz84_1 := blk_frozen BK614.out 1
             have hfz84_2 := blk_frozen BK614.out 2
             have hfz84_3 := blk_frozen BK614.out 3
             have hfz84_4 := blk_frozen BK614.out 4
             have hfz84_5 := blk_frozen BK614.out 5
             have hfz84_6 := blk_frozen BK614.out 6
             go_wp2_with (first | ((with_reducible refine gate_callee (f := 22) rfl ?_); refine goesL_ (some 78) rfl rfl Try.func22 (by kernel_rfl) rfl #[.agg #[.int .i64 t643, .int .i64 t644, .int .i64 t645, .int .i64 t646, .string t647, .int .i64 t648, .slice Ao71 t649.length co71], .agg #[.int .i64 t604, .int .i64 t605, .int .i64 t606, .int .i64 t607, .string t608, .int .i64 t609, .slice Ao13 t610.length co13]] rfl (by (try simp only [List.map_toArray, List.map_cons, List.map_nil]); first | done | rfl | (simp only [List.length_drop, List.length_take]; rfl)) ?_; (with_reducible refine (laws_eqMsg.calls kj35 t643 t644 t645 t646 t647 t648 _ _ t649 t604 t605 t606 t607 t608 t609 _ _ t610 false _ ?side1 ?side2 ?side3 ?side4 A72.out).mono ?_); (case side1 => refine (Kd.R_reads' (e := 9) (base := w.heap.size) (ok := fun k_ => ((True ∧ some k_ ≠ (.slice Ao13 t610.length co13 : Value).ownBlock) ∧ some k_ ≠ (.slice Ao20 t624.length co20 : Value).ownBlock)) (n := t649.length) (c := co71) ?_).2.2; exact (by (with_reducible repeat (first | apply Kd.R_alloc | apply Kd.R_drewN | apply Kd.R_drew)); exact (Kd.R_mono (Kd.R_far (p := ⟨gb653, 6, none⟩) (Kd.R_far (p := ⟨gb653, 5, none⟩) (Kd.R_far (p := ⟨gb653, 4, none⟩) (Kd.R_far (p := ⟨gb653, 3, none⟩) (Kd.R_far (p := ⟨gb653, 2, none⟩) (Kd.R_far (p := ⟨gb653, 1, none⟩) (Kd.R_far (p := ⟨gb653, 0, none⟩) (Kd.R_types HO651.out BK653.out (by decide)) (fun _ hk => hk.2) (.int .i64 t643)) (fun _ hk => hk.2) (.int .i64 t644)) (fun _ hk => hk.2) (.int .i64 t645)) (fun _ hk => hk.2) (.int .i64 t646)) (fun _ hk => hk.2) (.string t647)) (fun _ hk => hk.2) (.int .i64 t648)) (fun _ hk => hk.2) (.slice Ao71 t649.length co71)) (fun _ h_ => h_.1)))); (case side2 => exact (Kd.R_reads' HO651.out).2.1); (case side3 => refine (Kd.R_reads' (e := 9) (base := w.heap.size) (ok := fun k_ => (some k_ ≠ (.slice Ao20 t624.length co20 : Value).ownBlock ∧ some k_ ≠ (.slice Ao71 t649.length co71 : Value).ownBlock)) (n := t610.length) (c := co13) ?_).2.2; exact (by (with_reducible repeat (first | apply Kd.R_alloc | apply Kd.R_drewN | apply Kd.R_drew)); exact (Kd.R_mono (Kd.R_far (p := ⟨gb653, 6, none⟩) (Kd.R_far (p := ⟨gb653, 5, none⟩) (Kd.R_far (p := ⟨gb653, 4, none⟩) (Kd.R_far (p := ⟨gb653, 3, none⟩) (Kd.R_far (p := ⟨gb653, 2, none⟩) (Kd.R_far (p := ⟨gb653, 1, none⟩) (Kd.R_far (p := ⟨gb653, 0, none⟩) (Kd.R_types HO_615006.out BK653.out (by decide)) (fun _ hk => hk.2) (.int .i64 t643)) (fun _ hk => hk.2) (.int .i64 t644)) (fun _ hk => hk.2) (.int .i64 t645)) (fun _ hk => hk.2) (.int .i64 t646)) (fun _ hk => hk.2) (.string t647)) (fun _ hk => hk.2) (.int .i64 t648)) (fun _ hk => hk.2) (.slice Ao71 t649.length co71)) (fun _ h_ => h_.1)))); (case side4 => exact (Kd.R_reads' HO_615006.out).2.1); rintro e w85 ⟨rfl, hb⟩; refine ⟨_, rfl, ?_⟩; have n0_ := Aside0.mk (Kd.R_below (by (with_reducible repeat (first | apply Kd.R_alloc | apply Kd.R_drewN | apply Kd.R_drew)); exact (Kd.R_mono (Kd.R_far (p := ⟨gb653, 6, none⟩) (Kd.R_far (p := ⟨gb653, 5, none⟩) (Kd.R_far (p := ⟨gb653, 4, none⟩) (Kd.R_far (p := ⟨gb653, 3, none⟩) (Kd.R_far (p := ⟨gb653, 2, none⟩) (Kd.R_far (p := ⟨gb653, 1, none⟩) (Kd.R_far (p := ⟨gb653, 0, none⟩) (Kd.R_types HO_615006.out BK653.out (by decide)) (fun _ hk => hk.2) (.int .i64 t643)) (fun _ hk => hk.2) (.int .i64 t644)) (fun _ hk => hk.2) (.int .i64 t645)) (fun _ hk => hk.2) (.int .i64 t646)) (fun _ hk => hk.2) (.string t647)) (fun _ hk => hk.2) (.int .i64 t648)) (fun _ hk => hk.2) (.slice Ao71 t649.length co71)) (fun _ h_ => h_.1))) hb); have n1_ := Aside0.mk (Kd.R_below (by (with_reducible repeat (first | apply Kd.R_alloc | apply Kd.R_drewN | apply Kd.R_drew)); exact (Kd.R_mono (Kd.R_far (p := ⟨gb653, 6, none⟩) (Kd.R_far (p := ⟨gb653, 5, none⟩) (Kd.R_far (p := ⟨gb653, 4, none⟩) (Kd.R_far (p := ⟨gb653, 3, none⟩) (Kd.R_far (p := ⟨gb653, 2, none⟩) (Kd.R_far (p := ⟨gb653, 1, none⟩) (Kd.R_far (p := ⟨gb653, 0, none⟩) (Kd.R_types HO_629006.out BK653.out (by decide)) (fun _ hk => hk.2) (.int .i64 t643)) (fun _ hk => hk.2) (.int .i64 t644)) (fun _ hk => hk.2) (.int .i64 t645)) (fun _ hk => hk.2) (.int .i64 t646)) (fun _ hk => hk.2) (.string t647)) (fun _ hk => hk.2) (.int .i64 t648)) (fun _ hk => hk.2) (.slice Ao71 t649.length co71)) (fun _ h_ => h_.1))) hb); have n2_ := Aside0.mk (Kd.R_below (by (with_reducible repeat (first | apply Kd.R_alloc | apply Kd.R_drewN | apply Kd.R_drew)); exact (Kd.R_mono (Kd.R_far (p := ⟨gb653, 6, none⟩) (Kd.R_far (p := ⟨gb653, 5, none⟩) (Kd.R_far (p := ⟨gb653, 4, none⟩) (Kd.R_far (p := ⟨gb653, 3, none⟩) (Kd.R_far (p := ⟨gb653, 2, none⟩) (Kd.R_far (p := ⟨gb653, 1, none⟩) (Kd.R_far (p := ⟨gb653, 0, none⟩) (Kd.R_types HO642.out BK653.out (by decide)) (fun _ hk => hk.2) (.int .i64 t643)) (fun _ hk => hk.2) (.int .i64 t644)) (fun _ hk => hk.2) (.int .i64 t645)) (fun _ hk => hk.2) (.int .i64 t646)) (fun _ hk => hk.2) (.string t647)) (fun _ hk => hk.2) (.int .i64 t648)) (fun _ hk => hk.2) (.slice Ao71 t649.length co71)) (fun _ h_ => h_.1))) hb); have n3_ := Aside0.mk (Kd.R_below (by (with_reducible repeat (first | apply Kd.R_alloc | apply Kd.R_drewN | apply Kd.R_drew)); exact (Kd.R_mono (Kd.R_far (p := ⟨gb653, 6, none⟩) (Kd.R_far (p := ⟨gb653, 5, none⟩) (Kd.R_far (p := ⟨gb653, 4, none⟩) (Kd.R_far (p := ⟨gb653, 3, none⟩) (Kd.R_far (p := ⟨gb653, 2, none⟩) (Kd.R_far (p := ⟨gb653, 1, none⟩) (Kd.R_far (p := ⟨gb653, 0, none⟩) (Kd.R_types HO651.out BK653.out (by decide)) (fun _ hk => hk.2) (.int .i64 t643)) (fun _ hk => hk.2) (.int .i64 t644)) (fun _ hk => hk.2) (.int .i64 t645)) (fun _ hk => hk.2) (.int .i64 t646)) (fun _ hk => hk.2) (.string t647)) (fun _ hk => hk.2) (.int .i64 t648)) (fun _ hk => hk.2) (.slice Ao71 t649.length co71)) (fun _ h_ => h_.1))) hb); have n4_ := Aside0.mk (blk_below (g := gb614) (o := .cells #[.int .i64 t604, .int .i64 t605, .int .i64 t606, .int .i64 t607, .string t608, .int .i64 t609, .slice Ao13 t610.length co13] 33 (0, 0)) (by (with_reducible repeat (first | refine blk_drewN ?_ _ | refine blk_drew ?_ | refine blk_alloc ?_ _)); refine blk_far ?_ NB614_653.out _; (with_reducible repeat (first | refine blk_drewN ?_ _ | refine blk_drew ?_ | refine blk_alloc ?_ _)); refine blk_far ?_ NB614_653.out _; (with_reducible repeat (first | refine blk_drewN ?_ _ | refine blk_drew ?_ | refine blk_alloc ?_ _)); refine blk_far ?_ NB614_653.out _; (with_reducible repeat (first | refine blk_drewN ?_ _ | refine blk_drew ?_ | refine blk_alloc ?_ _)); refine blk_far ?_ NB614_653.out _; (with_reducible repeat (first | refine blk_drewN ?_ _ | refine blk_drew ?_ | refine blk_alloc ?_ _)); refine blk_far ?_ NB614_653.out _; (with_reducible repeat (first | refine blk_drewN ?_ _ | refine blk_drew ?_ | refine blk_alloc ?_ _)); refine blk_far ?_ NB614_653.out _; (with_reducible repeat (first | refine blk_drewN ?_ _ | refine blk_drew ?_ | refine blk_alloc ?_ _)); refine blk_far ?_ NB614_653.out _; (with_reducible repeat (first | refine blk_drewN ?_ _ | refine blk_drew ?_ | refine blk_alloc ?_ _)); exact BK614.out) hb); have n5_ := Aside0.mk (blk_below (g := gb628) (o := .cells #[.int .i64 t618, .int .i64 t619, .int .i64 t620, .int .i64 t621, .string t622, .int .i64 t623, .slice Ao20 t624.length co20] 33 (0, 0)) (by (with_reducible repeat (first | refine blk_drewN ?_ _ | refine blk_drew ?_ | refine blk_alloc ?_ _)); refine blk_far ?_ NB628_653.out _; (with_reducible repeat (first | refine blk_drewN ?_ _ | refine blk_drew ?_ | refine blk_alloc ?_ _)); refine blk_far ?_ NB628_653.out _; (with_reducible repeat (first | refine blk_drewN ?_ _ | refine blk_drew ?_ | refine blk_alloc ?_ _)); refine blk_far ?_ NB628_653.out _; (with_reducible repeat (first | refine blk_drewN ?_ _ | refine blk_drew ?_ | refine blk_alloc ?_ _)); refine blk_far ?_ NB628_653.out _; (with_reducible repeat (first | refine blk_drewN ?_ _ | refine blk_drew ?_ | refine blk_alloc ?_ _)); refine blk_far ?_ NB628_653.out _; (with_reducible repeat (first | refine blk_drewN ?_ _ | refine blk_drew ?_ | refine blk_alloc ?_ _)); refine blk_far ?_ NB628_653.out _; (with_reducible repeat (first | refine blk_drewN ?_ _ | refine blk_drew ?_ | refine blk_alloc ?_ _)); refine blk_far ?_ NB628_653.out _; (with_reducible repeat (first | refine blk_drewN ?_ _ | refine blk_drew ?_ | refine blk_alloc ?_ _)); exact BK628.out) hb); have n6_ := Aside0.mk (blk_below (g := gb653) (o := .cells #[.int .i64 t643, .int .i64 t644, .int .i64 t645, .int .i64 t646, .string t647, .int .i64 t648, .slice Ao71 t649.length co71] 33 (0, 0)) (by (with_reducible repeat (first | refine blk_drewN ?_ _ | refine blk_drew ?_ | refine blk_alloc ?_ _)); refine blk_put (cs := #[.int .i64 t643, .int .i64 t644, .int .i64 t645, .int .i64 t646, .string t647, .int .i64 t648, .slice none 0 0]) ?_ 6 _ rfl; (with_reducible repeat (first | refine blk_drewN ?_ _ | refine blk_drew ?_ | refine blk_alloc ?_ _)); refine blk_put (cs := #[.int .i64 t643, .int .i64 t644, .int .i64 t645, .int .i64 t646, .string t647, .int .i64 0, .slice none 0 0]) ?_ 5 _ rfl; (with_reducible repeat (first | refine blk_drewN ?_ _ | refine blk_drew ?_ | refine blk_alloc ?_ _)); refine blk_put (cs := #[.int .i64 t643, .int .i64 t644, .int .i64 t645, .int .i64 t646, .string (⟨#[]⟩ : ByteArray), .int .i64 0, .slice none 0 0]) ?_ 4 _ rfl; (with_reducible repeat (first | refine blk_drewN ?_ _ | refine blk_drew ?_ | refine blk_alloc ?_ _)); refine blk_put (cs := #[.int .i64 t643, .int .i64 t644, .int .i64 t645, .int .i64 0, .string (⟨#[]⟩ : ByteArray), .int .i64 0, .slice none 0 0]) ?_ 3 _ rfl; (with_reducible repeat (first | refine blk_drewN ?_ _ | refine blk_drew ?_ | refine blk_alloc ?_ _)); refine blk_put (cs := #[.int .i64 t643, .int .i64 t644, .int .i64 0, .int .i64 0, .string (⟨#[]⟩ : ByteArray), .int .i64 0, .slice none 0 0]) ?_ 2 _ rfl; (with_reducible repeat (first | refine blk_drewN ?_ _ | refine blk_drew ?_ | refine blk_alloc ?_ _)); refine blk_put (cs := #[.int .i64 t643, .int .i64 0, .int .i64 0, .int .i64 0, .string (⟨#[]⟩ : ByteArray), .int .i64 0, .slice none 0 0]) ?_ 1 _ rfl; (with_reducible repeat (first | refine blk_drewN ?_ _ | refine blk_drew ?_ | refine blk_alloc ?_ _)); refine blk_put (cs := #[.int .i64 0, .int .i64 0, .int .i64 0, .int .i64 0, .string (⟨#[]⟩ : ByteArray), .int .i64 0, .slice none 0 0]) ?_ 0 _ rfl; (with_reducible repeat (first | refine blk_drewN ?_ _ | refine blk_drew ?_ | refine blk_alloc ?_ _)); exact BK653.out) hb); have n7_ := Aside0.mk (below_step (by repeat (first | (with_reducible first | exact HB.out | apply below_alloc | apply pw_below_drewN | apply below_drew1 | refine below_set ?_ GE614.out | refine below_set ?_ GE628.out | refine below_set ?_ GE653.out) | exact HB.out)) hb); clear HO_615006; clear HO_629006; clear HO642; clear HO651; clear BK614; clear BK628; clear BK653; clear HB; have HO_615006 := n0_; have HO_629006 := n1_; have HO642 := n2_; have HO651 := n3_; have BK614 := n4_; have BK628 := n5_; have BK653 := n6_; have HB := n7_; clear n0_ n1_ n2_ n3_ n4_ n5_ n6_ n7_; (try clear hb); (try clear hb2); (try clear hk); (try clear hi)))
             go_meet
             case rel => exact ⟨_, (true), (by first | rfl | (simp; done) | (simp [*]; done)), H', ⟨by have := HJ6.out; have := HJ35.out; first | omega | exact Nat.le_refl _⟩, ⟨by (with_reducible repeat (first | apply Kd.R_alloc | apply Kd.R_drewN | apply Kd.R_drew)); exact HO_615006.out⟩, ⟨by (with_reducible repeat (first | apply Kd.R_alloc | apply Kd.R_drewN | apply Kd.R_drew)); exact HO_629006.out⟩, ⟨by (with_reducible repeat (first | apply Kd.R_alloc | apply Kd.R_drewN | apply Kd.R_drew)); exact Kd.R_mono HO651.out (fun _ hk => ⟨hk.1.2, hk.2⟩)⟩, ⟨by (with_reducible repeat (first | refine blk_drewN ?_ _ | refine blk_drew ?_ | refine blk_alloc ?_ _)); exact BK614.out⟩, ⟨by (with_reducible repeat (first | refine blk_drewN ?_ _ | refine blk_drew ?_ | refine blk_alloc ?_ _)); exact BK628.out⟩, ⟨by (with_reducible repeat (first | refine blk_drewN ?_ _ | refine blk_drew ?_ | refine blk_alloc ?_ _)); exact BK653.out⟩, ⟨by repeat (first | (with_reducible first | exact HB.out | apply below_alloc | apply pw_below_drewN | apply below_drew1 | refine below_set ?_ GE614.out | refine below_set ?_ GE628.out | refine below_set ?_ GE653.out) | exact HB.out)⟩⟩
           case rest =>
            clear HC58
            try clear c1
            try clear c2
            try clear c2b0
            try clear c2b1
            try clear p2
            try clear c3
            try clear c4
            try clear c5
            try clear c6
            try clear c7
            try clear c8
            try clear c18
            try clear c21
            try clear c22
            try clear c23
            try clear c24
            try clear c26
            try clear c27
            try clear c28
            try clear c29
            try clear c31
            try clear c34
            try clear c40
            try clear c40b0
            try clear c42
            try clear c43
            try clear c47
            try clear c51
            try clear c54
            try clear c54b0
            try clear c55
            try clear c55b0
            try clear c55b1
            try clear c59
            try clear c68
            try clear c69
            try clear c73
            try clear c74
            try clear c75
            try clear c77
            try clear c80
            try clear c81
            try clear c83
            try clear hcz12_0
            try clear hcz12_1
            try clear hcz12_2
            try clear hcz12_3
            try clear hcz12_4
            try clear hcz12_5
            try clear hcz12_6
            try clear hcz19_0
            try clear hcz19_1
            try clear hcz19_2
            try clear hcz19_3
            try clear hcz19_4
            try clear hcz19_5
            try clear hcz19_6
            try clear hcz24_0
            try clear hcz24_1
            try clear hcz24_2
            try clear hcz24_3
            try clear hcz24_4
            try clear hcz24_5
            try clear hcz24_6
            try clear hcz25_0
            try clear hcz25_1
            try clear hcz25_2
            try clear hcz25_3
            try clear hcz25_4
            try clear hcz25_5
            try clear hcz25_6
            try clear hcz28_0
            try clear hcz28_1
            try clear hcz28_2
            try clear hcz28_3
            try clear hcz28_4
            try clear hcz28_5
            try clear hcz28_6
            try clear hcz29_0
            try clear hcz29_1
            try clear hcz29_2
            try clear hcz29_3
            try clear hcz29_4
            try clear hcz29_5
            try clear hcz29_6
            try clear hcz44_0
            try clear hcz44_1
            try clear hcz44_2
            try clear hcz44_3
            try clear hcz44_4
            try clear hcz44_5
            try clear hcz44_6
            try clear hcz45_0
            try clear hcz45_1
            try clear hcz45_2
            try clear hcz45_3
            try clear hcz45_4
            try clear hcz45_5
            try clear hcz45_6
            try clear hcz48_0
            try clear hcz48_1
            try clear hcz48_2
            try clear hcz48_3
            try clear hcz48_4
            try clear hcz48_5
            try clear hcz48_6
            try clear hcz49_0
            try clear hcz49_1
            try clear hcz49_2
            try clear hcz49_3
            try clear hcz49_4
            try clear hcz49_5
            try clear hcz49_6
            try clear hcz60_0
            try clear hcz60_1
            try clear hcz60_2
            try clear hcz60_3
            try clear hcz60_4
            try clear hcz60_5
            try clear hcz60_6
            try clear hcz62_0
            try clear hcz62_1
            try clear hcz62_2
            try clear hcz62_3
            try clear hcz62_4
            try clear hcz62_5
            try clear hcz62_6
            try clear hcz70_0
            try clear hcz70_1
            try clear hcz70_2
            try clear hcz70_3
            try clear hcz70_4
            try clear hcz70_5
            try clear hcz70_6
            try clear hcz76_0
            try clear hcz76_1
            try clear hcz76_2
            try clear hcz76_3
            try clear hcz76_4
            try clear hcz76_5
            try clear hcz76_6
            try clear hcz78_0
            try clear hcz78_1
            try clear hcz78_2
            try clear hcz78_3
            try clear hcz78_4
            try clear hcz78_5
            try clear hcz78_6
            try clear hcz82_0
            try clear hcz82_1
            try clear hcz82_2
            try clear hcz82_3
            try clear hcz82_4
            try clear hcz82_5
            try clear hcz82_6
            try clear hcz84_0
            try clear hcz84_1
            try clear hcz84_2
            try clear hcz84_3
            try clear hcz84_4
            try clear hcz84_5
            try clear hcz84_6
            try clear hfz12_0
            try clear hfz12_1
            try clear hfz12_2
            try clear hfz12_3
            try clear hfz12_4
            try clear hfz12_5
            try clear hfz12_6
            try clear hfz19_0
            try clear hfz19_1
            try clear hfz19_2
            try clear hfz19_3
            try clear hfz19_4
            try clear hfz19_5
            try clear hfz19_6
            try clear hfz24_0
            try clear hfz24_1
            try clear hfz24_2
            try clear hfz24_3
            try clear hfz24_4
            try clear hfz24_5
            try clear hfz24_6
            try clear hfz25_0
            try clear hfz25_1
            try clear hfz25_2
            try clear hfz25_3
            try clear hfz25_4
            try clear hfz25_5
            try clear hfz25_6
            try clear hfz28_0
            try clear hfz28_1
            try clear hfz28_2
            try clear hfz28_3
            try clear hfz28_4
            try clear hfz28_5
            try clear hfz28_6
            try clear hfz29_0
            try clear hfz29_1
            try clear hfz29_2
            try clear hfz29_3
            try clear hfz29_4
            try clear hfz29_5
            try clear hfz29_6
            try clear hfz44_0
            try clear hfz44_1
            try clear hfz44_2
            try clear hfz44_3
            try clear hfz44_4
            try clear hfz44_5
            try clear hfz44_6
            try clear hfz45_0
            try clear hfz45_1
            try clear hfz45_2
            try clear hfz45_3
            try clear hfz45_4
            try clear hfz45_5
            try clear hfz45_6
            try clear hfz48_0
            try clear hfz48_1
            try clear hfz48_2
            try clear hfz48_3
            try clear hfz48_4
            try clear hfz48_5
            try clear hfz48_6
            try clear hfz49_0
            try clear hfz49_1
            try clear hfz49_2
            try clear hfz49_3
            try clear hfz49_4
            try clear hfz49_5
            try clear hfz49_6
            try clear hfz60_0
            try clear hfz60_1
            try clear hfz60_2
            try clear hfz60_3
            try clear hfz60_4
            try clear hfz60_5
            try clear hfz60_6
            try clear hfz62_0
            try clear hfz62_1
            try clear hfz62_2
            try clear hfz62_3
            try clear hfz62_4
            try clear hfz62_5
            try clear hfz62_6
            try clear hfz70_0
            try clear hfz70_1
            try clear hfz70_2
            try clear hfz70_3
            try clear hfz70_4
            try clear hfz70_5
            try clear hfz70_6
            try clear hfz76_0
            try clear hfz76_1
            try clear hfz76_2
            try clear hfz76_3
            try clear hfz76_4
            try clear hfz76_5
            try clear hfz76_6
            try clear hfz78_0
            try clear hfz78_1
            try clear hfz78_2
            try clear hfz78_3
            try clear hfz78_4
            try clear hfz78_5
            try clear hfz78_6
            try clear hfz82_0
            try clear hfz82_1
            try clear hfz82_2
            try clear hfz82_3
            try clear hfz82_4
            try clear hfz82_5
            try clear hfz82_6
            try clear hfz84_0
            try clear hfz84_1
            try clear hfz84_2
            try clear hfz84_3
            try clear hfz84_4
            try clear hfz84_5
            try clear hfz84_6
            try clear p2
            obtain ⟨kq, x84_57, rfl, HA, HJ57, HO_615006, HO_629006, HO_654006, BK614, BK628, BK653, HB⟩ := hcut
            have hl629006_57 := (Kd.R_reads' HO_629006.out).1
            rw [hl629006_57] at HO_629006
            (try simp only [hl629006_57])
            (try simp only [hl629006_57] at BK614)
            (try simp only [hl629006_57] at BK628)
            (try simp only [hl629006_57] at BK653)
            (try simp only [hl629006_57] at HO_615006)
            (try simp only [hl629006_57] at HO_654006)
            cases kq with
            | zero => exact absurd HA.out (by simp [laws_FnExactGetMsg.j2])
            | succ kj57 =>
             have H := HA.out
             clear HA
             simp only [laws_FnExactGetMsg.j2] at H
             by_cases c86 : x84_57 = true
             ·subst c86
              have H1 : (none) = some r := by rw [if_pos rfl] at H; exact H
              clear H
              have H := H1
              clear H1
              exact absurd H (by simp)
             ·replace c86 := Bool.eq_false_iff.mpr c86
              subst c86
              have H1 : ((laws_heldMsg.f kj57 t618 t619 t620 t621 t622 t623 t638 1).bind fun t655 => (if t655 < 0 then (none) else (if t655 = t637 then (some true) else (none)))) = some r := by rw [if_neg (show ¬ (false = true) by decide)] at H; exact H
              clear H
              have H := H1
              clear H1
              replace H := Option.bind_eq_some_iff.mp H
              obtain ⟨t655, A870, H⟩ := H
              replace H : (if t655 < 0 then (none) else (if t655 = t637 then (some true) else (none))) = some r := H
              have A87 := Aside0.mk A870
              clear A870
              by_cases c88 : t655 < 0
              ·rw [if_pos c88] at H
               exact absurd H (by simp)
              ·rw [if_neg c88] at H
               have c88b0 : decide (t655 < 0) = false := decide_eq_false c88
               clear c88
               by_cases c89 : t655 = t637
               ·rw [if_pos c89] at H
                have c89b0 : (t655 == t637) = true := beq_iff_eq.mpr c89
                have c89b1 : (t655 != t637) = false := bne_eq_false_iff_eq.mpr c89
                clear c89
                obtain rfl := Option.some.inj H
                have hnb90 := NB628_614.out
                have hnc90 := NB614_628.out
                have hnb91 := NB628_653.out
                have hnc91 := NB653_628.out
                have hcz92_0 : wc.cell? ⟨gb628, 0, none⟩ = some (.int .i64 t618) := (blk_cell BK628.out 0).trans rfl
                have hcz92_1 : wc.cell? ⟨gb628, 1, none⟩ = some (.int .i64 t619) := (blk_cell BK628.out 1).trans rfl
                have hcz92_2 : wc.cell? ⟨gb628, 2, none⟩ = some (.int .i64 t620) := (blk_cell BK628.out 2).trans rfl
                have hcz92_3 : wc.cell? ⟨gb628, 3, none⟩ = some (.int .i64 t621) := (blk_cell BK628.out 3).trans rfl
                have hcz92_4 : wc.cell? ⟨gb628, 4, none⟩ = some (.string t622) := (blk_cell BK628.out 4).trans rfl
                have hcz92_5 : wc.cell? ⟨gb628, 5, none⟩ = some (.int .i64 t623) := (blk_cell BK628.out 5).trans rfl
                have hcz92_6 : wc.cell? ⟨gb628, 6, none⟩ = some (.slice Ao20 t638.length co20) := (blk_cell BK628.out 6).trans rfl
                have hfz92_0 := blk_frozen BK628.out 0
                have hfz92_1 := blk_frozen BK628.out 1
                have hfz92_2 := blk_frozen BK628.out 2
                have hfz92_3 := blk_frozen BK628.out 3
                have hfz92_4 := blk_frozen BK628.out 4
                have hfz92_5 := blk_frozen BK628.out 5
                have hfz92_6 := blk_frozen BK628.out 6
                go_wp2_with (first | ((with_reducible refine gate_callee (f := 29) rfl ?_); refine goesL_ (some 87) rfl rfl Try.func29 (by kernel_rfl) rfl #[.agg #[.int .i64 t618, .int .i64 t619, .int .i64 t620, .int .i64 t621, .string t622, .int .i64 t623, .slice Ao20 t638.length co20], .int .i64 1] rfl (by (try simp only [List.map_toArray, List.map_cons, List.map_nil]); first | done | rfl | (simp only [List.length_drop, List.length_take]; rfl)) ?_; (with_reducible refine (laws_heldMsg.calls kj57 t618 t619 t620 t621 t622 t623 _ _ t638 1 t655 _ ?side1 ?side2 A87.out).mono ?_); (case side1 => repeat (first | exact (Kd.R_reads' HO_629006.out).2.2 | (with_reducible refine Kd.C_alloc ?_ _) | (with_reducible refine Kd.C_drewN ?_ _) | (with_reducible refine Kd.C_drew ?_))); (case side2 => exact (Kd.R_reads' HO_629006.out).2.1); rintro e w93 ⟨rfl, hb⟩; refine ⟨_, rfl, ?_⟩; have n0_ := Aside0.mk (Kd.R_below (by (with_reducible repeat (first | apply Kd.R_alloc | apply Kd.R_drewN | apply Kd.R_drew)); exact HO_615006.out) hb); have n1_ := Aside0.mk (Kd.R_below (by (with_reducible repeat (first | apply Kd.R_alloc | apply Kd.R_drewN | apply Kd.R_drew)); exact HO_629006.out) hb); have n2_ := Aside0.mk (Kd.R_below (by (with_reducible repeat (first | apply Kd.R_alloc | apply Kd.R_drewN | apply Kd.R_drew)); exact HO_654006.out) hb); have n3_ := Aside0.mk (blk_below (g := gb614) (o := .cells #[.int .i64 t604, .int .i64 t605, .int .i64 t606, .int .i64 t607, .string t608, .int .i64 t609, .slice Ao13 t610.length co13] 33 (0, 0)) (by (with_reducible repeat (first | refine blk_drewN ?_ _ | refine blk_drew ?_ | refine blk_alloc ?_ _)); exact BK614.out) hb); have n4_ := Aside0.mk (blk_below (g := gb628) (o := .cells #[.int .i64 t618, .int .i64 t619, .int .i64 t620, .int .i64 t621, .string t622, .int .i64 t623, .slice Ao20 t638.length co20] 33 (0, 0)) (by (with_reducible repeat (first | refine blk_drewN ?_ _ | refine blk_drew ?_ | refine blk_alloc ?_ _)); exact BK628.out) hb); have n5_ := Aside0.mk (blk_below (g := gb653) (o := .cells #[.int .i64 t643, .int .i64 t644, .int .i64 t645, .int .i64 t646, .string t647, .int .i64 t648, .slice Ao71 t649.length co71] 33 (0, 0)) (by (with_reducible repeat (first | refine blk_drewN ?_ _ | refine blk_drew ?_ | refine blk_alloc ?_ _)); exact BK653.out) hb); have n6_ := Aside0.mk (below_step (by repeat (first | (with_reducible first | exact HB.out | apply below_alloc | apply pw_below_drewN | apply below_drew1 | refine below_set ?_ GE614.out | refine below_set ?_ GE628.out | refine below_set ?_ GE653.out) | exact HB.out)) hb); clear HO_615006; clear HO_629006; clear HO_654006; clear BK614; clear BK628; clear BK653; clear HB; have HO_615006 := n0_; have HO_629006 := n1_; have HO_654006 := n2_; have BK614 := n3_; have BK628 := n4_; have BK653 := n5_; have HB := n6_; clear n0_ n1_ n2_ n3_ n4_ n5_ n6_; (try clear hb); (try clear hb2); (try clear hk); (try clear hi)))
                go_ret
                exact ⟨by first | rfl | (simp [errW_none, errW_some] <;> rfl) | (simp [*, errW_none, errW_some] <;> rfl), by repeat (first | (with_reducible first | exact HB.out | apply below_alloc | apply pw_below_drewN | apply below_drew1 | refine below_set ?_ GE614.out | refine below_set ?_ GE628.out | refine below_set ?_ GE653.out) | exact HB.out)⟩
               ·rw [if_neg c89] at H
                exact absurd H (by simp)
          ·rw [if_neg c55] at H
           exact absurd H (by simp)
     ·replace c34 := Bool.eq_false_iff.mpr c34
      subst c34
      have H1 : (none) = some r := by rw [if_neg (show ¬ (false = true) by decide)] at H; exact H
      clear H
      have H := H1
      clear H1
      exact absurd H (by simp)

end Go.Proofs.Ytcogimnpffnanaa.Q
end

section
/- The row of the law FnExactGetMsg out of its pure statement and the printed walk. -/
namespace Go.Proofs.Ytcogimnpffnanaa.Q
open Go.RowKit Go.Proofs.Ytcogimnpffnanaa.XO Go.Proofs.YtcogimnpffnanaaW.PrintWords Go.ChangeShapes Go.WideShapes Go.ChangeAt
set_option linter.unusedVariables false
set_option linter.unusedSimpArgs false
def laws_FnExactGetMsg.Pure : Prop := ∀ (x0 : List Int), (x0.length ≤ 9223372036854775807 ∧ ∀ y0 ∈ x0, (Lit.int .u8 y0).wf = true) → ∃ k, laws_FnExactGetMsg.f k x0 = some true
namespace RFnExactGetMsg
theorem own : ownKnob Try.prog.godebug = none := by kernel_rfl
theorem laidOut : laidOutB Try.prog = true := by kernel_rfl
set_option maxRecDepth 100000 in
theorem lifted (PU : laws_FnExactGetMsg.Pure) (os : Os) (started : os.Started) (H : Type) (enc : TypeId × Value → H) :
  ReturnsInHanded {} Try.checked os 5 .any (Rows.fnExactGetMsgSpec.pre6 enc Try.prog Try.f5 Rows.fnExactGetMsgRow.domain false) (Rows.fnExactGetMsgSpec.post enc Try.prog Try.f5 false true false false) := by
 refine returnsInHanded_of_change_sized (C := Try.checked) own started (by kernel_rfl) Try.func5
  (ChangeSpec.witness6 (enc := enc) (C := Try.checked) false ⟨#[], #[.slice none 0 0], []⟩ 8 (by kernel_rfl) (by kernel_rfl) (by kernel_rfl) (by kernel_rfl)) ?_
 intro W base args ds gs before hval0 hW hcnd hsz0 _
 have hval : ∀ (j : Nat) t v, Try.f5.params[j]? = some t → args[j]? = some v → Value.okWide Try.prog W .any base t v := hval0
 have hW' := hW
 obtain ⟨p, q, hA0, hV, rfl, hfz, hnd⟩ := hW
 have hA : DataW.TrodAll enc Try.prog W 0 (fun _ => true) true Try.f5.params.toList args.toList ds p := hA0
 rw [Try.params5] at hA hval
 obtain ⟨v0, vs0, d0, ds0, p0, q0, hargs, rfl, rfl, h0, r0⟩ := trodAll_cons hA
 obtain ⟨rfl, rfl, rfl⟩ := trodAll_nil r0
 obtain rfl : args = #[v0] := by cases args; simp_all
 obtain ⟨rfl, rfl⟩ := trodVars_none hV
 have kk0 := h0
 have lt0 : ∀ x ∈ p0, x.block < W.heap.size := by obtain ⟨m, hm⟩ := kk0; exact DataW.trod_lt m _ _ _ hm
 obtain ⟨A0, len0, c0, rfl⟩ := okWide_slice Try.underlying29 (hval 0 29 v0 rfl rfl)
 obtain ⟨fu0, hf0⟩ := h0
 obtain ⟨x0, ⟨A0', c0', he0, hc0, hr0⟩, g0⟩ := (opens_slice Try.underlying29 (by kernel_rfl) (opens_int Try.underlying5)) hf0
 obtain ⟨rfl, rfl, rfl⟩ : A0 = A0' ∧ len0 = x0.length ∧ c0 = c0' := by simpa [Value.cells] using he0
 clear hA0 hval0 hsz0
 obtain ⟨k, hp⟩ := PU x0 g0
 refine (laws_FnExactGetMsg.calls k _ _ x0 true W hr0 hc0 hp).mono fun e W' ⟨he, bel0⟩ => ?_
 have bel : Below W.heap.size W W' := bel0
 subst he
 exact ⟨_, rfl, _, _, _, [], _, [], hW', trodAll_mk1 (shut_bool Try.underlying4 _), (trodAll_cons_mk (Below.trod laidOut (by kernel_rfl) (of_decide_eq_true (by kernel_rfl)) kk0 bel lt0) trodAll_mk0), rfl, bel.frame _, fun h => by cases h⟩
theorem over (PU : laws_FnExactGetMsg.Pure) : Rows.fnExactGetMsgRow.holds Try.pinned (OpenSpec.ofChange Rows.fnExactGetMsgSpec) :=
 OpenClaim.holds_of_wide 5 Try.f5 rfl rfl rfl rfl rfl rfl rfl ⟨rfl, rfl, rfl, rfl, rfl⟩ rfl rfl rfl rfl rfl (by kernel_rfl) Try.func5 (by kernel_rfl)
  (of_decide_eq_true (by kernel_rfl)) (by unfold Func.isWrapper; first | (rw [if_pos (by decide +kernel)]; kernel_rfl) | (rw [if_neg (by decide +kernel)]; exact ⟨rfl, rfl⟩))
  (fun os started H enc _ => lifted PU os started H enc)
end RFnExactGetMsg
theorem FnExactGetMsg_row (PU : laws_FnExactGetMsg.Pure) : Rows.FnExactGetMsgSaid := RFnExactGetMsg.over PU
end Go.Proofs.Ytcogimnpffnanaa.Q
end
