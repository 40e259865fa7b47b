/- Two unlike texts of two unlike lists as long: the program's and the reference's are one; they have one digest just if the roots are the same. Plain. -/
import Derived.Test.YtnekmofpamnceaaJB3
import Derived.Test.YtnekmofpamnceaaSame
import Derived.Test.YtnekmofpamnceaaQf45
import Derived.Test.YtnekmofpamnceaaQf44
import Derived.Test.YtnekmofpamnceaaQf84
import Derived.Test.YtnekmofpamnceaaQf82
import Derived.Test.YtnekmofpamnceaaQf115
import Derived.Test.YtnekmofpamnceaaQf116
namespace Go.Proofs.Ytnekmofpamnceaa.Q
open Go.RowKit Go.Proofs.Ytnekmofpamnceaa.B Go.Proofs.YtnekmofpamnceaaW.PrintWords Go.Proofs.YtnekmofpamnceaaW.PrintMore
set_option linter.unusedVariables false
set_option linter.unusedSimpArgs false

theorem nums_app (xs : List Int) (s : ByteArray) : strOfNums (xs ++ bytesOf s) = strOfNums xs ++ s := by
  apply bytes_ext
  simp only [Go.Lib.toList_data, strOfNums_data, List.map_append, ByteArray.data_append, Array.toList_append]
  congr 1
  simp [bytesOf, List.map_map, Function.comp_def]
theorem bytes_app (a b : ByteArray) : bytesOf (a ++ b) = bytesOf a ++ bytesOf b := by
  simp [bytesOf, ByteArray.data_append]
def leafT (a : ByteArray) : ByteArray := (⟨#[0]⟩ : ByteArray) ++ a
def nodeT (a b : ByteArray) : ByteArray := ((⟨#[1]⟩ : ByteArray) ++ a) ++ b
theorem leafT_size (a : ByteArray) : (leafT a).size = 1 + a.size := ByteArray.size_append
theorem nodeT_size (a b : ByteArray) : (nodeT a b).size = 1 + a.size + b.size := by
  unfold nodeT
  rw [ByteArray.size_append, ByteArray.size_append]
  rfl
theorem leafT_sha (a : ByteArray) : sha (bytesOf (leafT a)) = leafH a := by
  unfold leafT leafH
  rw [bytes_app]
  rfl
theorem nodeT_sha (a b : ByteArray) : sha (bytesOf (nodeT a b)) = nodeH a b := by
  unfold nodeT nodeH
  rw [bytes_app, bytes_app]
  rfl
theorem app_inj {a b c d : ByteArray} (h : a ++ b = c ++ d) (hs : a.size = c.size) : a = c ∧ b = d := by
  have h2 : a.data.toList ++ b.data.toList = c.data.toList ++ d.data.toList := by
    have := congrArg (fun x => x.data.toList) h
    simpa [ByteArray.data_append] using this
  have hl : a.data.toList.length = c.data.toList.length := by
    rw [Array.length_toList, Array.length_toList]
    exact hs
  obtain ⟨p, q⟩ := List.append_inj h2 hl
  exact ⟨bytes_ext (by rw [Go.Lib.toList_data, Go.Lib.toList_data]; exact p), bytes_ext (by rw [Go.Lib.toList_data, Go.Lib.toList_data]; exact q)⟩
theorem leafT_inj {a b : ByteArray} (h : leafT a = leafT b) : a = b := (app_inj h rfl).2
theorem nodeT_inj {a b c d : ByteArray} (h : nodeT a b = nodeT c d) (hs : a.size = c.size) : a = c ∧ b = d := by
  obtain ⟨p, q⟩ := app_inj h (by rw [ByteArray.size_append, ByteArray.size_append]; omega)
  exact ⟨(app_inj p rfl).2, q⟩
theorem spec_leafT (a : ByteArray) (h : a.size ≤ bigB) : spec_l8Leaf.f a = some (leafT a) := by
  unfold spec_l8Leaf.f
  unfold bigB at h
  simp only [Option.bind_some, List.length_cons, List.length_nil]
  rw [if_pos (by omega), nums_app]
  rfl
theorem spec_nodeT (a b : ByteArray) (ha : a.size ≤ bigB) (hb : b.size ≤ bigB) : spec_l8Node.f a b = some (nodeT a b) := by
  unfold spec_l8Node.f
  unfold bigB at ha hb
  simp only [Option.bind_some, List.length_cons, List.length_nil]
  rw [if_pos (by omega), if_pos (by rw [List.length_append, bytesOf_length]; simp only [List.length_cons, List.length_nil]; omega), nums_app, nums_app]
  rfl
/-- What is told of two unlike lists. -/
def Told (l m : List ByteArray) (a b : ByteArray) : Prop := a ≠ b ∧ (sha (bytesOf a) = sha (bytesOf b) ↔ rootBy leafH l = rootBy leafH m) ∧ a.size ≤ 1048700 ∧ b.size ≤ 1048700
theorem halves_ne {l m : List ByteArray} {k : Nat} (h : l ≠ m) (ht : l.take k = m.take k) : l.drop k ≠ m.drop k := by
  intro hd
  apply h
  rw [← List.take_append_drop k l, ht, hd, List.take_append_drop]
theorem clash_ev : ∀ (n : Nat) (l m : List ByteArray), l.length ≤ n → l.length = m.length → l ≠ m → l.length ≤ 1048576 → (∀ x ∈ l, x.size ≤ bigB) → (∀ x ∈ m, x.size ≤ bigB) →
    ∃ a b, Ev (fun k => spec_l8Clash.f k l m) (a, b) ∧ Ev (fun k => impl_clash.f k l m) (a, b) ∧ Told l m a b := by
  intro n
  induction n with
  | zero =>
    intro l m h1 h2 h3
    have e1 := List.eq_nil_of_length_eq_zero (show l.length = 0 by omega)
    have e2 := List.eq_nil_of_length_eq_zero (show m.length = 0 by omega)
    exact absurd (e1.trans e2.symm) h3
  | succ n ih =>
    intro l m h1 h2 h3 h4 hs hm
    by_cases h : 2 ≤ l.length
    · have hp := half_pos l.length
      have hh := half_lt h
      have tl : (l.take (half l.length)).length = half l.length := by simp; omega
      have tm : (m.take (half l.length)).length = half l.length := by simp; omega
      have dl : (l.drop (half l.length)).length = l.length - half l.length := by simp
      have dm : (m.drop (half l.length)).length = m.length - half l.length := by simp
      have rl : rootBy leafH l = nodeH (rootBy leafH (l.take (half l.length))) (rootBy leafH (l.drop (half l.length))) := rootBy_more leafH h
      have rm : rootBy leafH m = nodeH (rootBy leafH (m.take (half l.length))) (rootBy leafH (m.drop (half l.length))) := by
        rw [rootBy_more leafH (l := m) (by omega), ← h2]
      have s1 := rooted_spec l.length (l.take (half l.length)) (by omega) (by omega) (mem_take_of hs)
      have s2 := rooted_spec l.length (l.drop (half l.length)) (by omega) (by omega) (mem_drop_of hs)
      have s3 := rooted_spec m.length (m.take (half l.length)) (by omega) (by omega) (mem_take_of hm)
      have s4 := rooted_spec m.length (m.drop (half l.length)) (by omega) (by omega) (mem_drop_of hm)
      have i1 := rooted_impl l.length (l.take (half l.length)) (by omega) (by omega) (mem_take_of hs)
      have i2 := rooted_impl l.length (l.drop (half l.length)) (by omega) (by omega) (mem_drop_of hs)
      have i3 := rooted_impl m.length (m.take (half l.length)) (by omega) (by omega) (mem_take_of hm)
      have i4 := rooted_impl m.length (m.drop (half l.length)) (by omega) (by omega) (mem_drop_of hm)
      have z1 := root_32 (l.take (half l.length))
      have z2 := root_32 (l.drop (half l.length))
      have z3 := root_32 (m.take (half l.length))
      have z4 := root_32 (m.drop (half l.length))
      have hS := spec_same_ev (l.take (half l.length)) (m.take (half l.length)) (by omega)
      have hI := impl_same_ev (l.take (half l.length)) (m.take (half l.length)) (by omega)
      have ihT : l.take (half l.length) ≠ m.take (half l.length) → ∃ a b, Ev (fun k => spec_l8Clash.f k (l.take (half l.length)) (m.take (half l.length))) (a, b) ∧ Ev (fun k => impl_clash.f k (l.take (half l.length)) (m.take (half l.length))) (a, b) ∧ Told (l.take (half l.length)) (m.take (half l.length)) a b := fun hne =>
        ih (l.take (half l.length)) (m.take (half l.length)) (by omega) (by omega) hne (by omega) (mem_take_of hs) (mem_take_of hm)
      have ihD : l.drop (half l.length) ≠ m.drop (half l.length) → ∃ a b, Ev (fun k => spec_l8Clash.f k (l.drop (half l.length)) (m.drop (half l.length))) (a, b) ∧ Ev (fun k => impl_clash.f k (l.drop (half l.length)) (m.drop (half l.length))) (a, b) ∧ Told (l.drop (half l.length)) (m.drop (half l.length)) a b := fun hne =>
        ih (l.drop (half l.length)) (m.drop (half l.length)) (by omega) (by omega) hne (by omega) (mem_drop_of hs) (mem_drop_of hm)
      have cut : l.take (half l.length) = m.take (half l.length) → l.drop (half l.length) ≠ m.drop (half l.length) := halves_ne h3
      have hhS := spec_half l.length h (by omega)
      have hhI := impl_half_ev l.length h (by omega)
      clear ih
      generalize hA : rootBy leafH (l.take (half l.length)) = A at *
      generalize hB : rootBy leafH (l.drop (half l.length)) = B at *
      generalize hC : rootBy leafH (m.take (half l.length)) = C at *
      generalize hD : rootBy leafH (m.drop (half l.length)) = D at *
      by_cases hd : A = C ∧ B = D
      · obtain ⟨rfl, rfl⟩ := hd
        have hroot : rootBy leafH l = rootBy leafH m := by rw [rl, rm]
        have hbb : (B.toList != B.toList) = false := by simp
        by_cases ht : l.take (half l.length) = m.take (half l.length)
        · obtain ⟨a, b, e1, e2, t1, t2, t3⟩ := ihD (cut ht)
          rw [decide_eq_true ht] at hS hI
          refine ⟨a, b, ?_, ?_, t1, ⟨fun _ => hroot, fun _ => t2.2 (hB.trans hD.symm)⟩, t3⟩
          · refine Ev.step (fun k => by simp only [spec_l8Clash.f]; rfl) ?_
            refine Ev.neg (by omega) (Ev.bind hhS (Ev.pos (by omega) (Ev.pos (by omega) (Ev.bind s1 (Ev.bind s2 (Ev.pos (by omega) (Ev.bind s3 (Ev.bind s4 (Ev.pos rfl ?_)))))))))
            rw [hbb]
            refine Ev.step (fun k => by simp only [spec_l8Clash.j0]; rfl) ?_
            exact Ev.neg (by simp) (Ev.pos (by omega) (Ev.pos (by omega) (Ev.pos (by omega) (Ev.bind hS (Ev.pos rfl (Ev.bind e1 (Ev.now _)))))))
          · refine Ev.step (fun k => by simp only [impl_clash.f]; rfl) ?_
            refine Ev.neg (by omega) (Ev.bind hhI (Ev.pos (by omega) (Ev.pos (by omega) (Ev.bind i1 (Ev.bind i2 (Ev.pos (by omega) (Ev.bind i3 (Ev.bind i4 (Ev.pos rfl ?_)))))))))
            rw [hbb]
            refine Ev.step (fun k => by simp only [impl_clash.j0]; rfl) ?_
            exact Ev.neg (by simp) (Ev.pos (by omega) (Ev.pos (by omega) (Ev.pos (by omega) (Ev.bind hI (Ev.pos rfl (Ev.bind e2 (Ev.now _)))))))
        · obtain ⟨a, b, e1, e2, t1, t2, t3⟩ := ihT ht
          rw [decide_eq_false ht] at hS hI
          refine ⟨a, b, ?_, ?_, t1, ⟨fun _ => hroot, fun _ => t2.2 (hA.trans hC.symm)⟩, t3⟩
          · refine Ev.step (fun k => by simp only [spec_l8Clash.f]; rfl) ?_
            refine Ev.neg (by omega) (Ev.bind hhS (Ev.pos (by omega) (Ev.pos (by omega) (Ev.bind s1 (Ev.bind s2 (Ev.pos (by omega) (Ev.bind s3 (Ev.bind s4 (Ev.pos rfl ?_)))))))))
            rw [hbb]
            refine Ev.step (fun k => by simp only [spec_l8Clash.j0]; rfl) ?_
            exact Ev.neg (by simp) (Ev.pos (by omega) (Ev.pos (by omega) (Ev.pos (by omega) (Ev.bind hS (Ev.neg (by simp) (Ev.bind e1 (Ev.now _)))))))
          · refine Ev.step (fun k => by simp only [impl_clash.f]; rfl) ?_
            refine Ev.neg (by omega) (Ev.bind hhI (Ev.pos (by omega) (Ev.pos (by omega) (Ev.bind i1 (Ev.bind i2 (Ev.pos (by omega) (Ev.bind i3 (Ev.bind i4 (Ev.pos rfl ?_)))))))))
            rw [hbb]
            refine Ev.step (fun k => by simp only [impl_clash.j0]; rfl) ?_
            exact Ev.neg (by simp) (Ev.pos (by omega) (Ev.pos (by omega) (Ev.pos (by omega) (Ev.bind hI (Ev.neg (by simp) (Ev.bind e2 (Ev.now _)))))))
      · refine ⟨nodeT A B, nodeT C D, ?_, ?_, fun e => hd (nodeT_inj e (by rw [z1, z3])), by rw [nodeT_sha, nodeT_sha, rl, rm], by rw [nodeT_size]; omega, by rw [nodeT_size]; omega⟩
        · have j : Ev (fun k => spec_l8Clash.j0 k l m ((half l.length : Nat) : Int) A B C D true) (nodeT A B, nodeT C D) := by
            refine Ev.step (fun k => by simp only [spec_l8Clash.j0]; rfl) ?_
            exact Ev.pos trivial (Ev.bind (Ev.const (spec_nodeT A B (by rw [z1]; decide) (by rw [z2]; decide))) (Ev.bind (Ev.const (spec_nodeT C D (by rw [z3]; decide) (by rw [z4]; decide))) (Ev.now _)))
          refine Ev.step (fun k => by simp only [spec_l8Clash.f]; rfl) ?_
          refine Ev.neg (by omega) (Ev.bind hhS (Ev.pos (by omega) (Ev.pos (by omega) (Ev.bind s1 (Ev.bind s2 (Ev.pos (by omega) (Ev.bind s3 (Ev.bind s4 ?_))))))))
          by_cases ha : A.toList = C.toList
          · have hb : (B.toList != D.toList) = true := by
              rw [bne_iff_ne]
              exact fun e => hd ⟨bytes_ext ha, bytes_ext e⟩
            rw [hb]
            exact Ev.pos ha j
          · exact Ev.neg ha j
        · have j : Ev (fun k => impl_clash.j0 k l m ((half l.length : Nat) : Int) A B C D true) (nodeT A B, nodeT C D) := by
            refine Ev.step (fun k => by simp only [impl_clash.j0]; rfl) ?_
            have q1 : ((⟨#[1]⟩ : ByteArray) ++ A).size = 33 := by rw [ByteArray.size_append, z1]; rfl
            have q2 : ((⟨#[1]⟩ : ByteArray) ++ C).size = 33 := by rw [ByteArray.size_append, z3]; rfl
            exact Ev.pos trivial (Ev.pos (by omega) (Ev.pos (by omega) (Ev.pos (by omega) (Ev.pos (by omega) (Ev.now _)))))
          refine Ev.step (fun k => by simp only [impl_clash.f]; rfl) ?_
          refine Ev.neg (by omega) (Ev.bind hhI (Ev.pos (by omega) (Ev.pos (by omega) (Ev.bind i1 (Ev.bind i2 (Ev.pos (by omega) (Ev.bind i3 (Ev.bind i4 ?_))))))))
          by_cases ha : A.toList = C.toList
          · have hb : (B.toList != D.toList) = true := by
              rw [bne_iff_ne]
              exact fun e => hd ⟨bytes_ext ha, bytes_ext e⟩
            rw [hb]
            exact Ev.pos ha j
          · exact Ev.neg ha j
    · have hl1 : l.length = 1 := by
        rcases Nat.eq_zero_or_pos l.length with hz | hz
        · have e1 := List.eq_nil_of_length_eq_zero hz
          have e2 := List.eq_nil_of_length_eq_zero (show m.length = 0 by omega)
          exact absurd (e1.trans e2.symm) h3
        · omega
      obtain ⟨x, rfl⟩ := list_one hl1
      obtain ⟨y, rfl⟩ := list_one (l := m) (by omega)
      have hx := hs x (by simp)
      have hy := hm y (by simp)
      have hx2 : x.size ≤ 1048608 := hx
      have hy2 : y.size ≤ 1048608 := hy
      refine ⟨leafT x, leafT y, ?_, ?_, fun e => h3 (by rw [leafT_inj e]), by rw [leafT_sha, leafT_sha, rootBy_one, rootBy_one], by rw [leafT_size]; omega, by rw [leafT_size]; omega⟩
      · refine Ev.step (fun k => by simp only [spec_l8Clash.f]; rfl) ?_
        exact Ev.pos rfl (Ev.pos (by simp) (Ev.bind (Ev.const (spec_leafT x hx)) (Ev.pos (by simp) (Ev.bind (Ev.const (spec_leafT y hy)) (Ev.now _)))))
      · refine Ev.step (fun k => by simp only [impl_clash.f]; rfl) ?_
        refine Ev.pos rfl (Ev.pos (by simp) (Ev.pos ?_ (Ev.pos (by simp) (Ev.pos ?_ (Ev.now _)))))
        · show 1 + x.size ≤ _
          omega
        · show 1 + y.size ≤ _
          omega
theorem Clash_ev (l m : List ByteArray) (hs : ∀ x ∈ l, x.size ≤ bigB) (hm : ∀ x ∈ m, x.size ≤ bigB) (h4 : l.length ≤ 1048576) :
    ∃ a b c, Ev (fun k => spec_Clash.f k l m) (a, b, c) ∧ Ev (fun k => impl_Clash.f k l m) (a, b, c) ∧ (if l.length = m.length ∧ l.length ≤ 200 ∧ l ≠ m then Told l m a b ∧ c = (decide (rootBy leafH l = rootBy leafH m)) else a = ⟨#[]⟩ ∧ b = ⟨#[]⟩ ∧ c = false) := by
  have jn : Ev (fun k => spec_Clash.j0 k l m true) ((⟨#[]⟩ : ByteArray), (⟨#[]⟩ : ByteArray), false) ∧ Ev (fun k => impl_Clash.j0 k l m true) ((⟨#[]⟩ : ByteArray), (⟨#[]⟩ : ByteArray), false) := by
    refine ⟨?_, ?_⟩
    · refine Ev.step (fun k => by simp only [spec_Clash.j0]; rfl) ?_
      exact Ev.pos trivial (Ev.now _)
    · refine Ev.step (fun k => by simp only [impl_Clash.j0]; rfl) ?_
      exact Ev.pos trivial (Ev.now _)
  unfold spec_Clash.f impl_Clash.f
  by_cases h : l.length = m.length ∧ l.length ≤ 200 ∧ l ≠ m
  · obtain ⟨h1, h2, h3⟩ := h
    obtain ⟨a, b, e1, e2, t⟩ := clash_ev l.length l m (Nat.le_refl _) h1 h3 h4 hs hm
    have hS := spec_same_ev l m (by omega)
    have hI := impl_same_ev l m (by omega)
    rw [decide_eq_false h3] at hS hI
    have hc : ((rootBy leafH l).toList == (rootBy leafH m).toList) = decide (rootBy leafH l = rootBy leafH m) := by
      by_cases e : rootBy leafH l = rootBy leafH m
      · rw [decide_eq_true e, e]
        simp
      · rw [decide_eq_false e, beq_eq_false_iff_ne]
        exact fun q => e (bytes_ext q)
    refine ⟨a, b, decide (rootBy leafH l = rootBy leafH m), ?_, ?_, by rw [if_pos ⟨h1, h2, h3⟩]; exact ⟨t, rfl⟩⟩
    · refine Ev.pos (by omega) (Ev.neg (by omega) (Ev.bind hS ?_))
      refine Ev.step (fun k => by simp only [spec_Clash.j0]; rfl) ?_
      exact Ev.neg (by simp) (Ev.bind e1 (Ev.bind (rooted_spec l.length l (Nat.le_refl _) (by omega) hs) (Ev.bind (rooted_spec m.length m (Nat.le_refl _) (by omega) hm) (Ev.one (Ev.now _) (by rw [hc])))))
    · refine Ev.pos (by omega) (Ev.neg (by omega) (Ev.bind hI ?_))
      refine Ev.step (fun k => by simp only [impl_Clash.j0]; rfl) ?_
      exact Ev.neg (by simp) (Ev.bind e2 (Ev.bind (rooted_impl l.length l (Nat.le_refl _) (by omega) hs) (Ev.bind (rooted_impl m.length m (Nat.le_refl _) (by omega) hm) (Ev.one (Ev.now _) (by rw [hc])))))
  · refine ⟨⟨#[]⟩, ⟨#[]⟩, false, ?_, ?_, by rw [if_neg h]; exact ⟨rfl, rfl, rfl⟩⟩
    · by_cases h1 : l.length = m.length
      · refine Ev.pos (by omega) ?_
        by_cases h2 : l.length ≤ 200
        · have e : l = m := by
            by_cases e : l = m
            · exact e
            · exact absurd ⟨h1, h2, e⟩ h
          have hS := spec_same_ev l m (by omega)
          rw [decide_eq_true e] at hS
          exact Ev.neg (by omega) (Ev.bind hS jn.1)
        · exact Ev.pos (by omega) jn.1
      · exact Ev.neg (by omega) jn.1
    · by_cases h1 : l.length = m.length
      · refine Ev.pos (by omega) ?_
        by_cases h2 : l.length ≤ 200
        · have e : l = m := by
            by_cases e : l = m
            · exact e
            · exact absurd ⟨h1, h2, e⟩ h
          have hI := impl_same_ev l m (by omega)
          rw [decide_eq_true e] at hI
          exact Ev.neg (by omega) (Ev.bind hI jn.2)
        · exact Ev.pos (by omega) jn.2
      · exact Ev.neg (by omega) jn.2
end Go.Proofs.Ytnekmofpamnceaa.Q
