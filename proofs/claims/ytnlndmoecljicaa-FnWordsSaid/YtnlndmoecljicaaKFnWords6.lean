-- Joined and shortened by a program of this session (wip/tools/shakecopy.py): the words of the print, texts of pp.sh and of mine.
import Derived.Test.YtnlndmoecljicaaKFnWords5
section
-- Written by a program of this session (wip/tools/pp.sh) over the print of the kit.
namespace Go.Proofs.Ytnlndmoecljicaa.Q
open Go.RowKit Go.Proofs.YtnlndmoecljicaaW.PrintWords Go.Proofs.YtnlndmoecljicaaW.PrintLast Go.Proofs.YtnlndmoecljicaaW.PrintMore
attribute [local go_sem] max2_int min2_int max_two min_two max_three min_three max_four min_four   -- for this text's walks alone
set_option linter.unusedVariables false
set_option linter.unusedSimpArgs false
def spec_l6Root.f : Nat → List ByteArray → Option (ByteArray)
 | 0, _ => none
 | k + 1, l0 => if (l0.length : Int) = 0 then ((spec_Digest.f k (([] : List Int))).bind fun t604 => (some t604)) else (if (l0.length : Int) = 1 then (if 0 < (l0.length : Int) then ((spec_LeafHash.f k (rdOf ByteArray.empty l0 0)).bind fun t606 => (some t606)) else (none)) else ((spec_l6Half.f k (l0.length : Int)).bind fun t607 => (if 0 ≤ t607 then (if t607 ≤ (l0.length : Int) then ((spec_l6Root.f k (l0.take (t607 : Int).toNat)).bind fun t609 => ((spec_l6Root.f k (l0.drop (t607 : Int).toNat)).bind fun t611 => ((spec_NodeHash.f k t609 t611).bind fun t612 => (some t612)))) else (none)) else (none))))
def spec_l6Root.T7 : Bool × List (List Nat × List Nat) := (true, [([], []), ([], []), ([0, 1], [0, 1]), ([2], [2]), ([], []), ([], []), ([4, 5], [4, 5]), ([6, 3], [6]), ([3, 7, 7], [3, 7]), ([8, 8, 0, 1, 2, 3, 4, 5, 6, 7, 8], [8])])
def spec_l6Root.B7 : List Nat := [0, 0, 3, 7, 0, 0, 48, 127, 255, 511]
theorem spec_l6Root.tab7 : rtab .any (opsOf Try.f67 7) = spec_l6Root.T7 := by kernel_rfl
theorem spec_l6Root.bits7 : waitsOk spec_l6Root.T7.2 spec_l6Root.B7 = true := by kernel_rfl
set_option maxHeartbeats 8000000 in
set_option maxRecDepth 100000 in
theorem spec_l6Root.calls (k : Nat) : ∀ (A0 : Option Addr) (c0 : Nat) (l0 : List ByteArray) (r : ByteArray) (w : World) (hr0 : Kd.C Kd.string w A0 l0.length l0) (hc0 : l0.length ≤ c0) (h : spec_l6Root.f k l0 = some r),
  Calls Try.prog 67 #[.slice A0 l0.length c0] w fun e w' => e = .returned (.string r) ∧ Below w.heap.size w w' := by
 induction k using Nat.strongRecOn with
 | _ k ih =>
 intro A0 c0 l0 r w hr0 hc0 h
 cases k with
 | zero => exact absurd h (by simp [spec_l6Root.f])
 | succ k =>
 simp only [spec_l6Root.f] at h
 have HR0 := Aside0.mk hr0
 have HC0 := Aside0.mk hc0
 clear hr0 hc0
 have HB := Aside0.mk (Below.refl w.heap.size w)
 have H : (if (l0.length : Int) = 0 then ((spec_Digest.f k (([] : List Int))).bind fun t604 => (some t604)) else (if (l0.length : Int) = 1 then (if 0 < (l0.length : Int) then ((spec_LeafHash.f k (rdOf ByteArray.empty l0 0)).bind fun t606 => (some t606)) else (none)) else ((spec_l6Half.f k (l0.length : Int)).bind fun t607 => (if 0 ≤ t607 then (if t607 ≤ (l0.length : Int) then ((spec_l6Root.f k (l0.take (t607 : Int).toNat)).bind fun t609 => ((spec_l6Root.f k (l0.drop (t607 : Int).toNat)).bind fun t611 => ((spec_NodeHash.f k t609 t611).bind fun t612 => (some t612)))) else (none)) else (none))))) = some r := h
 clear h
 replace H := it_ H; obtain ⟨c2, H⟩ | ⟨c2, H⟩ := H
 ·have c2b0 : ((l0.length : Int) == 0) = true := beq_iff_eq.mpr c2
  have c2b1 : ((l0.length : Int) != 0) = false := bne_eq_false_iff_eq.mpr c2
  clear c2
  obtain ⟨y601, hy601⟩ : ∃ y_ : List Int, y_ = (([] : List Int)) := ⟨_, rfl⟩
  replace H : ((spec_Digest.f k y601).bind fun t604 => (some t604)) = some r := yh_ hy601 H
  have Ny601 := Aside0.mk hy601
  clear hy601
  replace H := bi_ H; obtain ⟨t604, A3, H⟩ := H
  obtain rfl := Option.some.inj H
  go_enter Try.func67, Try.ntmps67
  go_wp2_with (first | ((with_reducible refine gd_ 8 ?_); refine rl_ (Kd.int .u8) 5 8 ([] : List Int) [] ?_; intro v602 w4 ho5 hb hg_ hnew_; clear hg_ hnew_; (first | rw [← Ny601.out] at ho5 | (simp only [Int.reduceToNat] at ho5; rw [← Ny601.out] at ho5)); have HO603 := Aside0.mk (Kd.R_lower ho5 (sz_ HB)); replace HB := ss_ HB hb; clear hb ho5; obtain ⟨Ao6, co6, eo6⟩ := Kd.R_slice HO603.out; subst eo6) | ((with_reducible refine gq_ 76 9 ?_); refine gc_ 9 Try.func76 (spec_Digest.calls k _ _ y601 t604 _ (ch_ HO603) (cl_ HO603) A3.out) ?_; rintro e w7 ⟨rfl, hb⟩; refine ⟨_, rfl, ?_⟩; replace HO603 := rb_ HO603 hb; replace HB := ss_ HB hb; clear hb))
  go_ret
  exact ⟨e2_, bw_ HB⟩
 ·have c2b0 : ((l0.length : Int) == 0) = false := beq_eq_false_iff_ne.mpr c2
  have c2b1 : ((l0.length : Int) != 0) = true := bne_iff_ne.mpr c2
  have c2b2 : ¬ (l0 = []) := fun h_ => c2 (by rw [h_]; rfl)
  replace H := it_ H; obtain ⟨c8, H⟩ | ⟨c8, H⟩ := H
  ·have c8b0 : ((l0.length : Int) == 1) = true := beq_iff_eq.mpr c8
   have c8b1 : ((l0.length : Int) != 1) = false := bne_eq_false_iff_eq.mpr c8
   clear c8
   replace H := ip_ H; obtain ⟨c9, H⟩ := H
   have c9b0 := decide_eq_true c9
   have c9b1 : decide (0 < l0.length) = true := decide_eq_true (by omega)
   clear c9
   replace H := bi_ H; obtain ⟨t606, A10, H⟩ := H
   obtain rfl := Option.some.inj H
   have p605 : 0 ≤ (0 : Int) := (by omega)
   have q605 : 0 < (l0.length : Int) := of_decide_eq_true as_
   obtain ⟨ad605, e605, hx605_0⟩ := Kd.at_string HR0.out 0 p605 q605
   cases e605
   have qi605 : (0 < l0.length) = True := eq_true (by omega)
   (try rw [show ((0 : Int)).toNat = 0 from rfl] at hx605_0)
   (try rw [Addr.add_zero'] at hx605_0)
   replace p605 := eq_true p605
   replace q605 := eq_true q605
   go_enter Try.func67, Try.ntmps67
   go_wp2_with (first | ((with_reducible refine gq_ 84 15 ?_); refine gc_ 15 Try.func84 (spec_LeafHash.calls k (rdOf ByteArray.empty l0 0) t606 _ A10.out) ?_; rintro e w11 ⟨rfl, hb⟩; refine ⟨_, rfl, ?_⟩; replace HB := ss_ HB hb; clear hb))
   go_ret
   exact ⟨e2_, bw_ HB⟩
  ·have c8b0 : ((l0.length : Int) == 1) = false := beq_eq_false_iff_ne.mpr c8
   have c8b1 : ((l0.length : Int) != 1) = true := bne_iff_ne.mpr c8
   replace H := bi_ H; obtain ⟨t607, A12, H⟩ := H
   replace H := ip_ H; obtain ⟨c13, H⟩ := H
   have c13b0 := eq_true c13
   have c13b1 := decide_eq_true c13
   clear c13
   replace H := ip_ H; obtain ⟨c14, H⟩ := H
   have c14b0 := eq_true c14
   have c14b1 := decide_eq_true c14
   clear c14
   replace H := bi_ H; obtain ⟨t609, A15, H⟩ := H
   have c16b0 := eq_true (of_decide_eq_true as_ : 0 ≤ t607)
   have c17b0 := eq_true (of_decide_eq_true as_ : t607 ≤ (l0.length : Int))
   replace H := bi_ H; obtain ⟨t611, A18, H⟩ := H
   replace H := bi_ H; obtain ⟨t612, A19, H⟩ := H
   obtain rfl := Option.some.inj H
   go_enter Try.func67, Try.ntmps67
   try go_wp2_with (first | ((with_reducible refine gq_ 85 18 ?_); refine gc_ 18 Try.func85 (spec_l6Half.calls k (l0.length : Int) t607 _ A12.out) ?_; rintro e w20 ⟨rfl, hb⟩; refine ⟨_, rfl, ?_⟩; replace HB := ss_ HB hb; clear hb))
   replace HB := Aside0.mk (below_drew1 HB.out)
   obtain ⟨i022, hi022, _, hsz22, _⟩ := info_parts info9
   obtain ⟨hcut22, hA22, hC22⟩ := print_take_of (P := Try.prog) Value.string (⟨#[]⟩ : ByteArray) 26 9 .i64 Try.underlying26 hi022 hsz22 A0 c0 l0 t607 (of_decide_eq_true as_) (of_decide_eq_true as_) HC0.out
   have HR608 := Aside0.mk (Kd.C_of_reads (h1 := fun _ => rfl) (hA22 _ (Kd.reads_of_C HR0.out)))
   have HC608 := Aside0.mk hC22
   clear hA22 hC22 hi022 hsz22
   obtain ⟨i023, hi023, _, hsz23, _⟩ := info_parts info9
   obtain ⟨A23, hcut23, hA23, hC23⟩ := print_drop_of (P := Try.prog) Value.string (⟨#[]⟩ : ByteArray) 26 9 .i64 Try.underlying26 hi023 hsz23 A0 c0 l0 t607 (of_decide_eq_true as_) (of_decide_eq_true as_) HC0.out
   have HR610 := Aside0.mk (Kd.C_of_reads (h1 := fun _ => rfl) (hA23 _ (Kd.reads_of_C HR0.out)))
   have HC610 := Aside0.mk hC23
   clear hA23 hC23 hi023 hsz23
   refine start_ (n := 10) (S := fun w' => True) (ds := []) (lz_ 10 0) (by kernel_rfl) rfl rfl trivial (fun hHeld => ?_); refine with_tabW spec_l6Root.tab7 spec_l6Root.bits7 (fun HT_ HW_ => ?_)
   generalize w20.drew = w21 at HB HR608 HR610 hHeld ⊢
   refine pt_ 0 19 1 ?_
   refine pt_ 1 20 3 ?_
   refine pt_ 2 21 7 ?_
   refine pt_ 4 23 23 ?_
   refine pt_ 5 24 55 ?_
   refine pt_ 6 25 119 ?_
   refine one_ (i := 3) (N := some 22) (lz_ 10 127) rfl rfl (one_of HT_.out (by kernel_rfl)) (by decide) (fun K hK => ?_)
   refine goes_ Try.func67 (by kernel_rfl) rfl #[.slice A0 (l0.take (t607 : Int).toNat).length c0] (by rfl) rfl rfl (by (try simp only [List.map_toArray, List.map_cons, List.map_nil]); first | done | (rw [show (l0.take (t607 : Int).toNat).length = t607.toNat from (by rw [List.length_take]; have h_ : (t607 : Int) ≤ (l0.length : Int) := of_decide_eq_true as_; omega)] <;> rfl) | rfl | (simp only [List.length_drop, List.length_take]; rfl)) ?_
   with_reducible refine (ih k (by omega) _ _ (l0.take (t607 : Int).toNat) t609 _ ?side1 ?side2 A15.out).mono ?_
   (case side1 => exact cb_ HR608 HB)
   (case side2 => exact HC608.out)
   rintro e w24 ⟨rfl, hb⟩
   refine ⟨_, rfl, ?_⟩
   replace HB := ss_ HB hb
   clear hb
   refine hK.out _ _ trivial (fun hHeld => ?_)
   clear hK K
   refine no_ 22 ?_
   refine one_ (i := 7) (N := some 26) (lz_ 10 255) rfl rfl (one_of HT_.out (by kernel_rfl)) (by decide) (fun K hK => ?_)
   refine goes_ Try.func67 (by kernel_rfl) rfl #[.slice A23 (l0.drop (t607 : Int).toNat).length (c0 - t607.toNat)] (by rfl) rfl rfl (by (try simp only [List.map_toArray, List.map_cons, List.map_nil]); first | done | (rw [show (l0.drop (t607 : Int).toNat).length = (l0.length - t607.toNat) from List.length_drop] <;> rfl) | rfl | (simp only [List.length_drop, List.length_take]; rfl)) ?_
   with_reducible refine (ih k (by omega) _ _ (l0.drop (t607 : Int).toNat) t611 _ ?side1 ?side2 A18.out).mono ?_
   (case side1 => exact cb_ HR610 HB)
   (case side2 => exact HC610.out)
   rintro e w25 ⟨rfl, hb⟩
   refine ⟨_, rfl, ?_⟩
   replace HB := ss_ HB hb
   clear hb
   refine hK.out _ _ trivial (fun hHeld => ?_)
   clear hK K
   refine no_ 26 ?_
   refine one_ (i := 8) (N := some 27) (lz_ 10 511) rfl rfl (one_of HT_.out (by kernel_rfl)) (by decide) (fun K hK => ?_)
   refine gf_ Try.func86 (spec_NodeHash.calls k t609 t611 t612 _ A19.out) ?_
   rintro e w26 ⟨rfl, hb⟩
   refine ⟨_, rfl, ?_⟩
   replace HB := ss_ HB hb
   clear hb
   refine hK.out _ _ trivial (fun hHeld => ?_)
   clear hK K
   refine no_ 27 ?_
   refine pt_ 9 2 1023 ?_
   refine done_ (done_of HT_.out (by kernel_rfl)) ?_
   try go_wp2
   go_ret
   exact ⟨e2_, bw_ HB⟩
end Go.Proofs.Ytnlndmoecljicaa.Q
end

section
-- Written by a program of this session (wip/tools/pp.sh) over the print of the kit.
namespace Go.Proofs.Ytnlndmoecljicaa.Q
open Go.RowKit Go.Proofs.YtnlndmoecljicaaW.PrintWords Go.Proofs.YtnlndmoecljicaaW.PrintLast Go.Proofs.YtnlndmoecljicaaW.PrintMore
attribute [local go_sem] max2_int min2_int max_two min_two max_three min_three max_four min_four   -- for this text's walks alone
set_option linter.unusedVariables false
set_option linter.unusedSimpArgs false
def spec_HeadOf.f (k : Nat) (l0 : List ByteArray) : Option (Int × ByteArray) := if (l0.length : Int) > 200 then (some (0, (⟨#[]⟩ : ByteArray))) else ((spec_l6Root.f k l0).bind fun t602 => (some ((l0.length : Int), t602)))
set_option maxHeartbeats 8000000 in
set_option maxRecDepth 100000 in
theorem spec_HeadOf.calls (k : Nat) (A0 : Option Addr) (c0 : Nat) (l0 : List ByteArray) (r1 : Int) (r2 : ByteArray) (w : World) (hr0 : Kd.C Kd.string w A0 l0.length l0) (hc0 : l0.length ≤ c0) (h : spec_HeadOf.f k l0 = some (r1, r2)) :
  Calls Try.prog 42 #[.slice A0 l0.length c0] w fun e w' => e = .returned (.agg #[.int .i64 r1, .string r2]) ∧ Below w.heap.size w w' := by
 have hu25 := Try.underlying25
 have HR0 := Aside0.mk hr0
 have HC0 := Aside0.mk hc0
 clear hr0 hc0
 have HB := Aside0.mk (Below.refl w.heap.size w)
 have H : (if (l0.length : Int) > 200 then (some (0, (⟨#[]⟩ : ByteArray))) else ((spec_l6Root.f k l0).bind fun t602 => (some ((l0.length : Int), t602)))) = some (r1, r2) := h
 clear h
 replace H := it_ H; obtain ⟨c2, H⟩ | ⟨c2, H⟩ := H
 ·have c2b0 : decide (200 < (l0.length : Int)) = true := decide_eq_true c2
  have c2b1 : decide (200 < l0.length) = true := decide_eq_true (by omega)
  clear c2
  replace H := so2_ H; obtain ⟨rfl, rfl⟩ := H
  go_enter Try.func42, Try.ntmps42
  go_wp2_with (first | ((with_reducible refine gd_ 2 ?_); refine bx_ 2 25 #[.int .i64 0, .string (⟨#[]⟩ : ByteArray)] ?_; intro gb601 hg w3 hbox hb; have BK601 := Aside0.mk hbox; have GW601 := gg_ hg HB; have GE601 := GW601; replace HB := ss_ HB hb; clear hb hbox hg; have hz4 := cz2_ BK601))
  refine bodyPost_ret (results_cell_row rfl _ _ gb601 25 #[.int .i64 0, .string (⟨#[]⟩ : ByteArray)] (0, 0) _ rfl (by exact kq_ BK601) Try.underlying25 rfl (by kernel_rfl)) rfl ?_
  exact ⟨e2_, bw_ HB⟩
 ·have c2b0 : decide (200 < (l0.length : Int)) = false := decide_eq_false c2
  have c2b1 : decide (200 < l0.length) = false := decide_eq_false (by omega)
  clear c2
  replace H := bi_ H; obtain ⟨t602, A5, H⟩ := H
  replace H := so2_ H; obtain ⟨rfl, rfl⟩ := H
  go_enter Try.func42, Try.ntmps42
  go_wp2_with (first | ((with_reducible refine gd_ 2 ?_); refine bx_ 2 25 #[.int .i64 0, .string (⟨#[]⟩ : ByteArray)] ?_; intro gb601 hg w6 hbox hb; have BK601 := Aside0.mk hbox; have GW601 := gg_ hg HB; have GE601 := GW601; replace HB := ss_ HB hb; clear hb hbox hg) | ((with_reducible refine gq_ 67 10 ?_); refine gc_ 10 Try.func67 (spec_l6Root.calls k _ _ l0 t602 _ (cb_ HR0 HB) HC0.out A5.out) ?_; rintro e w7 ⟨rfl, hb⟩; refine ⟨_, rfl, ?_⟩; replace BK601 := kl_ BK601 hb; replace HB := ss_ HB hb; clear hb; have hz8 := cz2_ BK601))
  refine bodyPost_ret (results_cell_row rfl _ _ gb601 25 #[.int .i64 (l0.length : Int), .string t602] (0, 0) _ rfl (by exact kq_ BK601) Try.underlying25 rfl (by kernel_rfl)) rfl ?_
  exact ⟨e2_, bw_ HB⟩
end Go.Proofs.Ytnlndmoecljicaa.Q
end

section
/- The root of a tree over texts, and the head of it: the program's and the reference's are one. Plain. -/
namespace Go.Proofs.Ytnlndmoecljicaa.Q
open Go.RowKit Go.Proofs.Ytnlndmoecljicaa.B Go.Proofs.YtnlndmoecljicaaW.PrintWords Go.Proofs.YtnlndmoecljicaaW.PrintMore
set_option linter.unusedVariables false
set_option linter.unusedSimpArgs false

def bigB : Nat := 1048608
theorem node_small {a b : ByteArray} (ha : a.size ≤ bigB) (hb : b.size ≤ bigB) : a.size + b.size ≤ 1099511627775 := by unfold bigB at *; omega
theorem mem_take_of {l : List ByteArray} {n : Nat} (h : ∀ x ∈ l, x.size ≤ bigB) : ∀ x ∈ l.take n, x.size ≤ bigB := fun x hx => h x (List.mem_of_mem_take hx)
theorem mem_drop_of {l : List ByteArray} {n : Nat} (h : ∀ x ∈ l, x.size ≤ bigB) : ∀ x ∈ l.drop n, x.size ≤ bigB := fun x hx => h x (List.mem_of_mem_drop hx)
theorem leafs_small (l : List ByteArray) : ∀ x ∈ l, (leafH x).size ≤ bigB := fun x _ => by rw [leafH_size]; decide
theorem root_small (l : List ByteArray) : (rootBy leafH l).size ≤ bigB := rootBy_size leafH bigB (by decide) _ (leafs_small l)
theorem root_32 (l : List ByteArray) : (rootBy leafH l).size = 32 := by
  by_cases h : 2 ≤ l.length
  · rw [rootBy_more leafH h]
    exact nodeH_size _ _
  · by_cases h0 : l.length = 0
    · rw [List.eq_nil_of_length_eq_zero h0, rootBy_nil]
      exact sha_size _
    · obtain ⟨a, rfl⟩ := list_one (l := l) (by omega)
      rw [rootBy_one]
      exact leafH_size _
theorem rooted_spec : ∀ (n : Nat) (l : List ByteArray), l.length ≤ n → l.length ≤ 4611686018427387904 → (∀ x ∈ l, x.size ≤ bigB) → Ev (fun k => spec_l6Root.f k l) (rootBy leafH l) := by
  intro n
  induction n with
  | zero =>
    intro l h1 h2 hs
    obtain rfl := List.eq_nil_of_length_eq_zero (show l.length = 0 by omega)
    rw [rootBy_nil]
    refine Ev.step (fun k => by simp only [spec_l6Root.f]; rfl) ?_
    exact Ev.pos rfl (Ev.bind (spec_Digest_ev [] (by decide) (by simp)) (Ev.now _))
  | succ n ih =>
    intro l h1 h3 hs
    by_cases h : 2 ≤ l.length
    · obtain ⟨p1, p2, p3, p4⟩ := cut_parts l h
      have hh := half_lt h
      have e1 := ih (l.take (half l.length)) (by omega) (by omega) (mem_take_of hs)
      have e2 := ih (l.drop (half l.length)) (by omega) (by omega) (mem_drop_of hs)
      have e3 := spec_node _ _ (node_small (root_small (l.take (half l.length))) (root_small (l.drop (half l.length))))
      rw [rootBy_more leafH h]
      refine Ev.step (fun k => by simp only [spec_l6Root.f]; rfl) ?_
      refine Ev.neg (by omega) (Ev.neg (by omega) (Ev.bind (spec_half l.length h h3) ?_))
      exact Ev.pos (by omega) (Ev.pos (by omega) (Ev.bind e1 (Ev.bind e2 (Ev.bind e3 (Ev.now _)))))
    · match l, h with
      | [], _ =>
        rw [rootBy_nil]
        refine Ev.step (fun k => by simp only [spec_l6Root.f]; rfl) ?_
        exact Ev.pos rfl (Ev.bind (spec_Digest_ev [] (by decide) (by simp)) (Ev.now _))
      | [a], _ =>
        rw [rootBy_one]
        have ha := hs a (by simp)
        refine Ev.step (fun k => by simp only [spec_l6Root.f]; rfl) ?_
        refine Ev.neg (by simp) (Ev.pos rfl (Ev.pos (by simp) ?_))
        exact Ev.bind (spec_leaf a (by unfold bigB at ha; omega)) (Ev.now _)
      | _ :: _ :: _, h => simp at h
/-- The head of a list of texts. -/
def headOf (l : List ByteArray) : Int × ByteArray := if (l.length : Int) > 200 then (0, ⟨#[]⟩) else ((l.length : Int), rootBy leafH l)
theorem headOf_few {l : List ByteArray} (h : l.length ≤ 200) : headOf l = ((l.length : Int), rootBy leafH l) := if_neg (by omega)
theorem headOf_many {l : List ByteArray} (h : ¬ l.length ≤ 200) : headOf l = (0, ⟨#[]⟩) := if_pos (by omega)
theorem spec_HeadOf_ev (l : List ByteArray) (hs : ∀ x ∈ l, x.size ≤ bigB) : Ev (fun k => spec_HeadOf.f k l) (headOf l) := by
  unfold spec_HeadOf.f
  by_cases h : l.length ≤ 200
  · rw [headOf_few h]
    exact Ev.neg (by omega) (Ev.bind (rooted_spec l.length l (Nat.le_refl _) (by omega) hs) (Ev.now _))
  · rw [headOf_many h]
    exact Ev.pos (by omega) (Ev.now _)
end Go.Proofs.Ytnlndmoecljicaa.Q
end

section
-- Written by a program of this session (wip/tools/pp.sh) over the print of the kit.
namespace Go.Proofs.Ytnlndmoecljicaa.Q
open Go.RowKit Go.Proofs.YtnlndmoecljicaaW.PrintWords Go.Proofs.YtnlndmoecljicaaW.PrintLast Go.Proofs.YtnlndmoecljicaaW.PrintMore
attribute [local go_sem] max2_int min2_int max_two min_two max_three min_three max_four min_four   -- for this text's walks alone
set_option linter.unusedVariables false
set_option linter.unusedSimpArgs false
def IsS84 (w0 W : World) (g : Nat) (f0 : List Int) (f1 : Int) (f2 : Int) : Prop := ∃ A0 c0, W.heap[g]? = some (.cells #[.slice A0 f0.length c0, .int .i64 f1, .int .i64 f2] 84 (0, 0)) ∧ w0.heap.size ≤ g ∧ Kd.C (Kd.int .u8) w0 A0 f0.length f0 ∧ f0.length ≤ c0
theorem IsS84.grown {w0 W : World} {g : Nat} {f0 : List Int} {f1 : Int} {f2 : Int} {W1 : World} {row : Option Nat} (h : IsS84 w0 W g f0 f1 f2) (hw : W.grownBy W1 row) (hne : some g ≠ row) : IsS84 w0 W1 g f0 f1 f2 := by
 obtain ⟨A0, c0, hb, hg, hr0, hq0⟩ := h
 exact ⟨A0, c0, blk_grown hb hw hne, hg, hr0, hq0⟩
theorem IsS84.kept {w0 W : World} {g : Nat} {f0 : List Int} {f1 : Int} {f2 : Int} {W1 : World} {S : Nat → Prop} (h : IsS84 w0 W g f0 f1 f2) (hk : Kept W W1 S) (hne : ¬ S g) : IsS84 w0 W1 g f0 f1 f2 := by
 obtain ⟨A0, c0, hb, hg, hr0, hq0⟩ := h
 exact ⟨A0, c0, blk_kept hb hk hne, hg, hr0, hq0⟩
theorem IsS84.below {w0 W : World} {g : Nat} {f0 : List Int} {f1 : Int} {f2 : Int} {W1 : World} (h : IsS84 w0 W g f0 f1 f2) (hw : Below W.heap.size W W1) : IsS84 w0 W1 g f0 f1 f2 := h.grown (grown_of_below hw none) (by simp)
theorem IsS84.alloc {w0 W : World} {g : Nat} {f0 : List Int} {f1 : Int} {f2 : Int} (h : IsS84 w0 W g f0 f1 f2) (o : Obj) : IsS84 w0 (W.alloc o) g f0 f1 f2 := h.below (below_alloc (Below.refl _ _) o)
theorem IsS84.drewN {w0 W : World} {g : Nat} {f0 : List Int} {f1 : Int} {f2 : Int} (h : IsS84 w0 W g f0 f1 f2) (m : Nat) : IsS84 w0 (W.drewN m) g f0 f1 f2 := h
theorem IsS84.drew {w0 W : World} {g : Nat} {f0 : List Int} {f1 : Int} {f2 : Int} (h : IsS84 w0 W g f0 f1 f2) : IsS84 w0 W.drew g f0 f1 f2 := h
theorem IsS84.at_ {w0 W : World} {g : Nat} {f0 : List Int} {f1 : Int} {f2 : Int} {w' : World} {m : Nat} (hq : W.drewN m = w') (h : IsS84 w0 W g f0 f1 f2) : IsS84 w0 w' g f0 f1 f2 := by subst hq; exact IsS84.drewN h m
theorem IsS84.apart {w0 W : World} {g : Nat} {f0 : List Int} {f1 : Int} {f2 : Int} {α : Type} {d : Kd α} {e : Nat} {base : Nat} {ok : Nat → Prop} {v : Value} {xs : List α} (h : IsS84 w0 W g f0 f1 f2) (ho : d.R e W base ok v xs) (ht : ∀ q, q ∈ e :: d.E → q ≠ 84) : d.R e W base (fun k => ok k ∧ k ≠ g) v xs := by
 obtain ⟨A0, c0, hb, hg, hr0, hq0⟩ := h
 exact Kd.R_types ho hb ht
theorem IsS84.own_ne {w0 W : World} {g : Nat} {f0 : List Int} {f1 : Int} {f2 : Int} {α : Type} {d : Kd α} {e : Nat} {base : Nat} {ok : Nat → Prop} {v : Value} {xs : List α} (h : IsS84 w0 W g f0 f1 f2) (ho : d.R e W base ok v xs) (ht : e ≠ 84) : some g ≠ v.ownBlock := by
 obtain ⟨A0, c0, hb, hg, hr0, hq0⟩ := h
 exact Kd.R_ne ho hb ht
theorem IsS84.lt {w0 W : World} {g : Nat} {f0 : List Int} {f1 : Int} {f2 : Int} (h : IsS84 w0 W g f0 f1 f2) : g < W.heap.size := by
 obtain ⟨A0, c0, hb, hg, hr0, hq0⟩ := h
 exact blk_lt hb
theorem IsS84.ge {w0 W : World} {g : Nat} {f0 : List Int} {f1 : Int} {f2 : Int} (h : IsS84 w0 W g f0 f1 f2) : w0.heap.size ≤ g := by
 obtain ⟨A0, c0, hb, hg, hr0, hq0⟩ := h
 exact hg
theorem IsS84.ne_blk {w0 W : World} {g : Nat} {f0 : List Int} {f1 : Int} {f2 : Int} {a : Nat} {cs : Array Value} {t : TypeId} {fr : Nat × Nat} (h : IsS84 w0 W g f0 f1 f2) (hb2 : W.heap[a]? = some (.cells cs t fr)) (ht : t ≠ 84) : g ≠ a := by
 obtain ⟨A0, c0, hb, hg, hr0, hq0⟩ := h
 rintro rfl
 rw [hb] at hb2
 injection hb2 with hb2
 injection hb2 with _ ht2
 exact ht ht2.symm
theorem IsS84.far {w0 W : World} {g : Nat} {f0 : List Int} {f1 : Int} {f2 : Int} {p : Addr} (h : IsS84 w0 W g f0 f1 f2) (hne : g ≠ p.block) (u : Value) : IsS84 w0 (W.setCell p u) g f0 f1 f2 := by
 obtain ⟨A0, c0, hb, hg, hr0, hq0⟩ := h
 exact ⟨A0, c0, blk_far hb hne u, hg, hr0, hq0⟩
theorem cellS84_0 {W : World} {g : Nat} {A0 : Option Addr} {c0 : Nat} {f0 : List Int} {f1 : Int} {f2 : Int} (h : W.heap[g]? = some (.cells #[.slice A0 f0.length c0, .int .i64 f1, .int .i64 f2] 84 (0, 0))) : W.cell? ⟨g, 0, none⟩ = some (.slice A0 f0.length c0) := (blk_cell h 0).trans rfl
theorem cellS84_1 {W : World} {g : Nat} {A0 : Option Addr} {c0 : Nat} {f0 : List Int} {f1 : Int} {f2 : Int} (h : W.heap[g]? = some (.cells #[.slice A0 f0.length c0, .int .i64 f1, .int .i64 f2] 84 (0, 0))) : W.cell? ⟨g, 1, none⟩ = some (.int .i64 f1) := (blk_cell h 1).trans rfl
theorem IsS84.set_1 {w0 W : World} {g : Nat} {f0 : List Int} {f1 : Int} {f2 : Int} (h : IsS84 w0 W g f0 f1 f2) (x : Int) : IsS84 w0 (W.setCell ⟨g, 1, none⟩ (.int .i64 x)) g f0 x f2 := by
 obtain ⟨A0, c0, hb, hg, hr0, hq0⟩ := h
 exact ⟨A0, c0, by simpa using blk_set hb 1 (.int .i64 x), hg, hr0, hq0⟩
theorem cellS84_2 {W : World} {g : Nat} {A0 : Option Addr} {c0 : Nat} {f0 : List Int} {f1 : Int} {f2 : Int} (h : W.heap[g]? = some (.cells #[.slice A0 f0.length c0, .int .i64 f1, .int .i64 f2] 84 (0, 0))) : W.cell? ⟨g, 2, none⟩ = some (.int .i64 f2) := (blk_cell h 2).trans rfl
theorem IsS84.set_2 {w0 W : World} {g : Nat} {f0 : List Int} {f1 : Int} {f2 : Int} (h : IsS84 w0 W g f0 f1 f2) (x : Int) : IsS84 w0 (W.setCell ⟨g, 2, none⟩ (.int .i64 x)) g f0 f1 x := by
 obtain ⟨A0, c0, hb, hg, hr0, hq0⟩ := h
 exact ⟨A0, c0, by simpa using blk_set hb 2 (.int .i64 x), hg, hr0, hq0⟩
theorem IsS84.new (w0 W : World) (A0 : Option Addr) (c0 : Nat) (f0 : List Int) (f1 : Int) (f2 : Int) (hB : Below w0.heap.size w0 W) (hr0 : Kd.C (Kd.int .u8) w0 A0 f0.length f0) (hq0 : f0.length ≤ c0) : IsS84 w0 (W.alloc (.cells #[.slice A0 f0.length c0, .int .i64 f1, .int .i64 f2] 84)) W.heap.size f0 f1 f2 := ⟨A0, c0, by simpa using heap_alloc_new W _, hB.size, hr0, hq0⟩
def spec_l1New.l0 : Nat → List Int → Int → Int → Option (List Int × Int × Int)
 | 0, _, _, _ => none
 | k + 1, x0, x3, x4 => if x4 < (x0.length : Int) then (if x4 < 4000 then (if 0 ≤ x4 then (spec_l1New.l0 k x0 (Go.bits .and .i64 (wrap64 ((wrap64 ((wrap64 (x3 * 137)) + (wrap64 (rd x0 x4)))) + 11)) 1073741823) (wrap64 (x4 + 1))) else (none)) else (some (x0, 0, x3))) else (some (x0, 0, x3))
def spec_l1New.f (k : Nat) (l0 : List Int) : Option (List Int × Int × Int) := spec_l1New.l0 k l0 (wrap64 (372372 + (l0.length : Int))) 0
set_option maxHeartbeats 8000000 in
set_option maxRecDepth 100000 in
theorem spec_l1New.calls (k : Nat) (A0 : Option Addr) (c0 : Nat) (l0 : List Int) (r1 : List Int) (r2 : Int) (r3 : Int) (w0 w : World) (hB : Below w0.heap.size w0 w) (hr0 : Kd.C (Kd.int .u8) w0 A0 l0.length l0) (hc0 : l0.length ≤ c0) (h : spec_l1New.f k l0 = some (r1, r2, r3)) :
  Calls Try.prog 20 #[.slice A0 l0.length c0] w fun e w' => ∃ g_ : Nat, e = .returned (.pointer (some ⟨g_, 0, none⟩)) ∧ IsS84 w0 w' g_ r1 r2 r3 ∧ Below w0.heap.size w0 w' ∧ Below w.heap.size w w' := by
 have hu84 := Try.underlying84
 have HR0 := Aside0.mk hr0
 have HC0 := Aside0.mk hc0
 clear hr0 hc0
 have HBW := Aside0.mk (Below.refl w.heap.size w)
 have HW0 := Aside0.mk hB.size
 have HB := Aside0.mk hB
 clear hB
 have H : (spec_l1New.l0 k l0 (wrap64 (372372 + (l0.length : Int))) 0) = some (r1, r2, r3) := h
 clear h
 have H' := Aside0.mk H
 clear H
 go_enter Try.func20, Try.ntmps20
 go_wp2
 go_loopg [3, 4] k (fun kq v3 v4 w' => ∃ (x3_1 : Int) (x4_1 : Int), v3 = .int .i64 x3_1 ∧ v4 = .int .i64 x4_1 ∧ Aside0 (spec_l1New.l0 kq l0 x3_1 x4_1 = some (r1, r2, r3)) ∧ Aside0 (kq ≤ k) ∧ Aside0 (Below w0.heap.size w0 w') ∧ Aside0 (Below w.heap.size w w'))
 case atStart => exact ⟨(wrap64 (372372 + (l0.length : Int))), (0), e1_, e1_, H', ⟨Nat.le_refl _⟩, ⟨bw_ HB⟩, ⟨by repeat (first | (with_reducible first | exact HBW.out | apply below_alloc | apply pw_below_drewN | apply below_drew1) | exact HBW.out)⟩⟩
 case round =>
  clear H'
  obtain ⟨x3_1, x4_1, rfl, rfl, HA, HK1, HB, HBW⟩ := hrel
  cases gk with
  | zero => exact absurd HA.out (by simp [spec_l1New.l0])
  | succ k1 =>
   have H := HA.out
   clear HA
   simp only [spec_l1New.l0] at H
   replace H := itd_ H; obtain ⟨c2b0, H⟩ | ⟨c2b0, H⟩ := H
   ·replace H := itd_ H; obtain ⟨c3b0, H⟩ | ⟨c3b0, H⟩ := H
    ·replace H := ipd_ H; obtain ⟨c4b0, H⟩ := H
     have H' := Aside0.mk H
     clear H
     have p601 : 0 ≤ (x4_1 : Int) := of_decide_eq_true as_
     have q601 : x4_1 < (l0.length : Int) := of_decide_eq_true as_
     obtain ⟨ad601, e601, hx601_0⟩ := Kd.at_int HR0.out x4_1 p601 q601
     cases e601
     replace hx601_0 := pw_cell_below HB.out hx601_0
     replace p601 := eq_true p601
     replace q601 := eq_true q601
     go_wp2
     go_roundg k1
     case measure => have := HK1.out; omega
     case rel => exact ⟨(Go.bits .and .i64 (wrap64 ((wrap64 ((wrap64 (x3_1 * 137)) + (wrap64 (rd l0 x4_1)))) + 11)) 1073741823), (wrap64 (x4_1 + 1)), e1_, e1_, H', ⟨by have := HK1.out; omega⟩, ⟨bw_ HB⟩, ⟨by repeat (first | (with_reducible first | exact HBW.out | apply below_alloc | apply pw_below_drewN | apply below_drew1) | exact HBW.out)⟩⟩
    ·replace H := so3_ H; obtain ⟨rfl, rfl, rfl⟩ := H
     go_wp2_with (first | ((with_reducible refine gd_ 31 ?_); refine bx_ 31 84 #[.slice A0 l0.length c0, .int .i64 0, .int .i64 x3_1] ?_; intro gb602 hg w5 hbox hb; replace HB := ss_ HB hb; have BK602 := Aside0.mk hbox; have GW602 := Aside0.mk ((by rw [hg]; exact (below_size (by repeat (first | (with_reducible first | exact HBW.out | apply below_alloc | apply pw_below_drewN | apply below_drew1) | exact HBW.out))) : w.heap.size ≤ gb602)); have GE602 := Aside0.mk ((Nat.le_trans HW0.out (by rw [hg]; exact (below_size (by repeat (first | (with_reducible first | exact HBW.out | apply below_alloc | apply pw_below_drewN | apply below_drew1) | exact HBW.out))) : w.heap.size ≤ gb602) : w0.heap.size ≤ gb602)); replace HBW := Aside0.mk (below_step HBW.out hb); clear hb hbox hg))
     go_ret
     exact ⟨_, rfl, (show IsS84 w0 _ gb602 l0 0 x3_1 from ⟨_, _, kb_ BK602.out, GE602.out, HR0.out, HC0.out⟩), bw_ HB, by repeat (first | (with_reducible first | exact HBW.out | apply below_alloc | apply pw_below_drewN | apply below_drew1 | refine below_set ?_ GW602.out) | exact HBW.out)⟩
   ·replace H := so3_ H; obtain ⟨rfl, rfl, rfl⟩ := H
    go_wp2_with (first | ((with_reducible refine gd_ 31 ?_); refine bx_ 31 84 #[.slice A0 l0.length c0, .int .i64 0, .int .i64 x3_1] ?_; intro gb603 hg w6 hbox hb; replace HB := ss_ HB hb; have BK603 := Aside0.mk hbox; have GW603 := Aside0.mk ((by rw [hg]; exact (below_size (by repeat (first | (with_reducible first | exact HBW.out | apply below_alloc | apply pw_below_drewN | apply below_drew1) | exact HBW.out))) : w.heap.size ≤ gb603)); have GE603 := Aside0.mk ((Nat.le_trans HW0.out (by rw [hg]; exact (below_size (by repeat (first | (with_reducible first | exact HBW.out | apply below_alloc | apply pw_below_drewN | apply below_drew1) | exact HBW.out))) : w.heap.size ≤ gb603) : w0.heap.size ≤ gb603)); replace HBW := Aside0.mk (below_step HBW.out hb); clear hb hbox hg))
    go_ret
    exact ⟨_, rfl, (show IsS84 w0 _ gb603 l0 0 x3_1 from ⟨_, _, kb_ BK603.out, GE603.out, HR0.out, HC0.out⟩), bw_ HB, by repeat (first | (with_reducible first | exact HBW.out | apply below_alloc | apply pw_below_drewN | apply below_drew1 | refine below_set ?_ GW603.out) | exact HBW.out)⟩
end Go.Proofs.Ytnlndmoecljicaa.Q
end

section
-- Written by a program of this session (wip/tools/pp.sh) over the print of the kit.
namespace Go.Proofs.Ytnlndmoecljicaa.Q
open Go.RowKit Go.Proofs.YtnlndmoecljicaaW.PrintWords Go.Proofs.YtnlndmoecljicaaW.PrintLast Go.Proofs.YtnlndmoecljicaaW.PrintMore
attribute [local go_sem] max2_int min2_int max_two min_two max_three min_three max_four min_four   -- for this text's walks alone
set_option linter.unusedVariables false
set_option linter.unusedSimpArgs false
def spec_l1Byte.f (s0_0 : List Int) (s0_1 : Int) (s0_2 : Int) : Option (Int × Int × Int) := if s0_1 < (s0_0.length : Int) then (if 0 ≤ s0_1 then (some (Go.bits .and .i64 (wrap64 ((Go.bits .and .i64 (Go.bits .xor .i64 ((wrap64 ((wrap64 (s0_2 * 6364136223846793005)) + 1442695040888963407)) / 8589934592) ((wrap64 ((wrap64 (s0_2 * 6364136223846793005)) + 1442695040888963407)) / 140737488355328)) 255) + (wrap64 (rd s0_0 s0_1)))) 255, wrap64 (s0_1 + 1), wrap64 ((wrap64 (s0_2 * 6364136223846793005)) + 1442695040888963407))) else (none)) else (some (Go.bits .and .i64 (Go.bits .xor .i64 ((wrap64 ((wrap64 (s0_2 * 6364136223846793005)) + 1442695040888963407)) / 8589934592) ((wrap64 ((wrap64 (s0_2 * 6364136223846793005)) + 1442695040888963407)) / 140737488355328)) 255, s0_1, wrap64 ((wrap64 (s0_2 * 6364136223846793005)) + 1442695040888963407)))
set_option maxHeartbeats 8000000 in
set_option maxRecDepth 100000 in
theorem spec_l1Byte.calls (g : Nat) (s0_0 : List Int) (s0_1 : Int) (s0_2 : Int) (r1 : Int) (r2 : Int) (r3 : Int) (w0 w : World) (hI : IsS84 w0 w g s0_0 s0_1 s0_2) (hB : Below w0.heap.size w0 w) (h : spec_l1Byte.f s0_0 s0_1 s0_2 = some (r1, r2, r3)) :
  Calls Try.prog 61 #[.pointer (some ⟨g, 0, none⟩)] w fun e w' => e = .returned (.int .i64 r1) ∧ IsS84 w0 w' g s0_0 r2 r3 ∧ Below w0.heap.size w0 w' ∧ KeepBut w w' g none := by
 have HI0 := Aside0.mk hI
 have HK := Aside0.mk (KeepBut.refl w g none)
 have HL := Aside0.mk hB.size
 clear hI
 have HW0 := Aside0.mk hB.size
 have HB := Aside0.mk hB
 clear hB
 have H : (if s0_1 < (s0_0.length : Int) then (if 0 ≤ s0_1 then (some (Go.bits .and .i64 (wrap64 ((Go.bits .and .i64 (Go.bits .xor .i64 ((wrap64 ((wrap64 (s0_2 * 6364136223846793005)) + 1442695040888963407)) / 8589934592) ((wrap64 ((wrap64 (s0_2 * 6364136223846793005)) + 1442695040888963407)) / 140737488355328)) 255) + (wrap64 (rd s0_0 s0_1)))) 255, wrap64 (s0_1 + 1), wrap64 ((wrap64 (s0_2 * 6364136223846793005)) + 1442695040888963407))) else (none)) else (some (Go.bits .and .i64 (Go.bits .xor .i64 ((wrap64 ((wrap64 (s0_2 * 6364136223846793005)) + 1442695040888963407)) / 8589934592) ((wrap64 ((wrap64 (s0_2 * 6364136223846793005)) + 1442695040888963407)) / 140737488355328)) 255, s0_1, wrap64 ((wrap64 (s0_2 * 6364136223846793005)) + 1442695040888963407)))) = some (r1, r2, r3) := h
 clear h
 replace H := itd_ H; obtain ⟨c2b0, H⟩ | ⟨c2b0, H⟩ := H
 ·replace H := ipd_ H; obtain ⟨c3b0, H⟩ := H
  replace H := so3_ H; obtain ⟨rfl, rfl, rfl⟩ := H
  obtain ⟨ASz4_0, cSz4_0, HGz4, hgz4, HSz4_0, HSQz4_0⟩ := HI0.out
  have hcz4_0 := cellS84_0 HGz4
  have hcz4_1 := cellS84_1 HGz4
  have hcz4_2 := cellS84_2 HGz4
  have hfz4_1 := blk_frozen HGz4 1
  have hfz4_2 := blk_frozen HGz4 2
  clear HGz4 hgz4
  have p601 : 0 ≤ (s0_1 : Int) := of_decide_eq_true as_
  have q601 : s0_1 < (s0_0.length : Int) := of_decide_eq_true as_
  obtain ⟨ad601, e601, hx601_0⟩ := Kd.at_int HSz4_0 s0_1 p601 q601
  cases e601
  have hn601_0 : ad601.block ≠ g := Nat.ne_of_lt (Nat.lt_of_lt_of_le (by have := World.block_lt_of_cell? _ _ hx601_0; first | rwa [add_block] at this | exact this) (IsS84.ge HI0.out))
  replace hx601_0 := pw_cell_below HB.out hx601_0
  replace hx601_0 := (cell_far (p := ⟨g, 2, none⟩) (by first | (rw [add_block]; exact hn601_0) | (show (Addr.add _ _).block ≠ _; rw [add_block]; exact hn601_0) | exact hn601_0) (.int .i64 (wrap64 ((wrap64 (s0_2 * 6364136223846793005)) + 1442695040888963407)))).trans hx601_0
  (try have hy601_0 := fun (n_ : Nat) => (show (((w.drewN n_).setCell ⟨g, 2, none⟩ (.int .i64 (wrap64 ((wrap64 (s0_2 * 6364136223846793005)) + 1442695040888963407))))).cell? _ = some _ from hx601_0))
  clear hn601_0
  replace p601 := eq_true p601
  replace q601 := eq_true q601
  go_enter Try.func61, Try.ntmps61
  go_wp2
  repeat (go_quiet (fail); try go_wp2)
  go_ret
  exact ⟨e2_, by repeat (first | (with_reducible first | exact HI0.out | apply IsS84.alloc | apply IsS84.drewN | apply IsS84.drew | apply IsS84.set_1 | apply IsS84.set_2) | exact HI0.out), by repeat (first | (with_reducible first | exact HB.out | apply below_alloc | apply pw_below_drewN | apply below_drew1 | refine below_set ?_ (IsS84.ge HI0.out)) | exact HB.out), by repeat (first | (with_reducible first | exact HK.out | apply KeepBut.set_ | apply keep_drewN | apply keep_drew | apply keep_alloc) | exact HK.out)⟩
 ·replace H := so3_ H; obtain ⟨rfl, rfl, rfl⟩ := H
  obtain ⟨ASz5_0, cSz5_0, HGz5, hgz5, HSz5_0, HSQz5_0⟩ := HI0.out
  have hcz5_0 := cellS84_0 HGz5
  have hcz5_1 := cellS84_1 HGz5
  have hcz5_2 := cellS84_2 HGz5
  have hfz5_1 := blk_frozen HGz5 1
  have hfz5_2 := blk_frozen HGz5 2
  clear HGz5 hgz5
  go_enter Try.func61, Try.ntmps61
  go_wp2
  repeat (go_quiet (fail); try go_wp2)
  go_ret
  exact ⟨e2_, by repeat (first | (with_reducible first | exact HI0.out | apply IsS84.alloc | apply IsS84.drewN | apply IsS84.drew | apply IsS84.set_1 | apply IsS84.set_2) | exact HI0.out), by repeat (first | (with_reducible first | exact HB.out | apply below_alloc | apply pw_below_drewN | apply below_drew1 | refine below_set ?_ (IsS84.ge HI0.out)) | exact HB.out), by repeat (first | (with_reducible first | exact HK.out | apply KeepBut.set_ | apply keep_drewN | apply keep_drew | apply keep_alloc) | exact HK.out)⟩
end Go.Proofs.Ytnlndmoecljicaa.Q
end

section
-- Written by a program of this session (wip/tools/pp.sh) over the print of the kit.
namespace Go.Proofs.Ytnlndmoecljicaa.Q
open Go.RowKit Go.Proofs.YtnlndmoecljicaaW.PrintWords Go.Proofs.YtnlndmoecljicaaW.PrintLast Go.Proofs.YtnlndmoecljicaaW.PrintMore
attribute [local go_sem] max2_int min2_int max_two min_two max_three min_three max_four min_four   -- for this text's walks alone
set_option linter.unusedVariables false
set_option linter.unusedSimpArgs false
def spec_l1Below.f (s0_0 : List Int) (s0_1 : Int) (s0_2 : Int) (a1 : Int) : Option (Int × Int × Int) := if a1 ≤ 0 then (some (0, s0_1, s0_2)) else (if a1 ≤ 256 then ((spec_l1Byte.f s0_0 s0_1 s0_2).bind fun bt601 => (if a1 = 0 then (none) else (some (Int.tmod bt601.1 a1, bt601.2.1, bt601.2.2)))) else ((spec_l1Byte.f s0_0 s0_1 s0_2).bind fun bt604 => ((spec_l1Byte.f s0_0 bt604.2.1 bt604.2.2).bind fun bt607 => ((spec_l1Byte.f s0_0 bt607.2.1 bt607.2.2).bind fun bt610 => (if a1 = 0 then (none) else (some (Int.tmod (wrap64 ((wrap64 ((wrap64 (bt604.1 * 65536)) + (wrap64 (bt607.1 * 256)))) + bt610.1)) a1, bt610.2.1, bt610.2.2)))))))
set_option maxHeartbeats 8000000 in
set_option maxRecDepth 100000 in
theorem spec_l1Below.calls (g : Nat) (s0_0 : List Int) (s0_1 : Int) (s0_2 : Int) (a1 : Int) (r1 : Int) (r2 : Int) (r3 : Int) (w0 w : World) (hI : IsS84 w0 w g s0_0 s0_1 s0_2) (hB : Below w0.heap.size w0 w) (h : spec_l1Below.f s0_0 s0_1 s0_2 a1 = some (r1, r2, r3)) :
  Calls Try.prog 27 #[.pointer (some ⟨g, 0, none⟩), .int .i64 a1] w fun e w' => e = .returned (.int .i64 r1) ∧ IsS84 w0 w' g s0_0 r2 r3 ∧ Below w0.heap.size w0 w' ∧ KeepBut w w' g none := by
 have HI0 := Aside0.mk hI
 have HK := Aside0.mk (KeepBut.refl w g none)
 have HL := Aside0.mk hB.size
 clear hI
 have HW0 := Aside0.mk hB.size
 have HB := Aside0.mk hB
 clear hB
 have H : (if a1 ≤ 0 then (some (0, s0_1, s0_2)) else (if a1 ≤ 256 then ((spec_l1Byte.f s0_0 s0_1 s0_2).bind fun bt601 => (if a1 = 0 then (none) else (some (Int.tmod bt601.1 a1, bt601.2.1, bt601.2.2)))) else ((spec_l1Byte.f s0_0 s0_1 s0_2).bind fun bt604 => ((spec_l1Byte.f s0_0 bt604.2.1 bt604.2.2).bind fun bt607 => ((spec_l1Byte.f s0_0 bt607.2.1 bt607.2.2).bind fun bt610 => (if a1 = 0 then (none) else (some (Int.tmod (wrap64 ((wrap64 ((wrap64 (bt604.1 * 65536)) + (wrap64 (bt607.1 * 256)))) + bt610.1)) a1, bt610.2.1, bt610.2.2)))))))) = some (r1, r2, r3) := h
 clear h
 replace H := itd_ H; obtain ⟨c3b0, H⟩ | ⟨c3b0, H⟩ := H
 ·replace H := so3_ H; obtain ⟨rfl, rfl, rfl⟩ := H
  go_enter Try.func27, Try.ntmps27
  go_wp2
  go_ret
  exact ⟨e2_, by repeat (first | (with_reducible first | exact HI0.out | apply IsS84.alloc | apply IsS84.drewN | apply IsS84.drew | apply IsS84.set_1 | apply IsS84.set_2) | exact HI0.out), by repeat (first | (with_reducible first | exact HB.out | apply below_alloc | apply pw_below_drewN | apply below_drew1 | refine below_set ?_ (IsS84.ge HI0.out)) | exact HB.out), by repeat (first | (with_reducible first | exact HK.out | apply KeepBut.set_ | apply keep_drewN | apply keep_drew | apply keep_alloc) | exact HK.out)⟩
 ·replace H := itd_ H; obtain ⟨c4b0, H⟩ | ⟨c4b0, H⟩ := H
  ·replace H := bi_ H; obtain ⟨⟨t601, t602, t603⟩, A5, H⟩ := H
   dsimp only at H
   replace H := in_ H; obtain ⟨c6, H⟩ := H
   have c6b0 : (a1 == 0) = false := beq_eq_false_iff_ne.mpr c6
   have c6b1 : (a1 != 0) = true := bne_iff_ne.mpr c6
   replace H := so3_ H; obtain ⟨rfl, rfl, rfl⟩ := H
   go_enter Try.func27, Try.ntmps27
   go_wp2_with (first | ((with_reducible refine gk_ 61 ?_); refine gl_ 13 Try.func61 #[.pointer (some ⟨g, 0, none⟩)] ?_; (with_reducible refine (spec_l1Byte.calls g s0_0 s0_1 s0_2 t601 t602 t603 w0 _ ?side1 ?side2 A5.out).mono ?_); (case side1 => repeat (first | (with_reducible first | exact HI0.out | apply IsS84.alloc | apply IsS84.drewN | apply IsS84.drew | apply IsS84.set_1 | apply IsS84.set_2) | exact HI0.out)); (case side2 => repeat (first | (with_reducible first | exact HB.out | apply below_alloc | apply pw_below_drewN | apply below_drew1 | refine below_set ?_ (IsS84.ge HI0.out)) | exact HB.out)); rintro e w7 ⟨rfl, hi, hb, hk⟩; refine ⟨_, rfl, ?_⟩; replace HK := Aside0.mk (KeepBut.trans (by repeat (first | (with_reducible first | exact HK.out | apply KeepBut.set_ | apply keep_drewN | apply keep_drew | apply keep_alloc) | exact HK.out)) hk (.inl rfl)); replace HB := Aside0.mk hb; replace HI0 := Aside0.mk hi; clear hb hk hi))
   go_ret
   exact ⟨e2_, by repeat (first | (with_reducible first | exact HI0.out | apply IsS84.alloc | apply IsS84.drewN | apply IsS84.drew | apply IsS84.set_1 | apply IsS84.set_2) | exact HI0.out), by repeat (first | (with_reducible first | exact HB.out | apply below_alloc | apply pw_below_drewN | apply below_drew1 | refine below_set ?_ (IsS84.ge HI0.out)) | exact HB.out), by repeat (first | (with_reducible first | exact HK.out | apply KeepBut.set_ | apply keep_drewN | apply keep_drew | apply keep_alloc) | exact HK.out)⟩
  ·replace H := bi_ H; obtain ⟨⟨t604, t605, t606⟩, A8, H⟩ := H
   dsimp only at H
   replace H := bi_ H; obtain ⟨⟨t607, t608, t609⟩, A9, H⟩ := H
   dsimp only at H
   replace H := bi_ H; obtain ⟨⟨t610, t611, t612⟩, A10, H⟩ := H
   dsimp only at H
   replace H := in_ H; obtain ⟨c11, H⟩ := H
   have c11b0 : (a1 == 0) = false := beq_eq_false_iff_ne.mpr c11
   have c11b1 : (a1 != 0) = true := bne_iff_ne.mpr c11
   replace H := so3_ H; obtain ⟨rfl, rfl, rfl⟩ := H
   go_enter Try.func27, Try.ntmps27
   go_wp2_with (first | ((with_reducible refine gk_ 61 ?_); refine gl_ 17 Try.func61 #[.pointer (some ⟨g, 0, none⟩)] ?_; (with_reducible refine (spec_l1Byte.calls g s0_0 s0_1 s0_2 t604 t605 t606 w0 _ ?side1 ?side2 A8.out).mono ?_); (case side1 => repeat (first | (with_reducible first | exact HI0.out | apply IsS84.alloc | apply IsS84.drewN | apply IsS84.drew | apply IsS84.set_1 | apply IsS84.set_2) | exact HI0.out)); (case side2 => repeat (first | (with_reducible first | exact HB.out | apply below_alloc | apply pw_below_drewN | apply below_drew1 | refine below_set ?_ (IsS84.ge HI0.out)) | exact HB.out)); rintro e w12 ⟨rfl, hi, hb, hk⟩; refine ⟨_, rfl, ?_⟩; replace HK := Aside0.mk (KeepBut.trans (by repeat (first | (with_reducible first | exact HK.out | apply KeepBut.set_ | apply keep_drewN | apply keep_drew | apply keep_alloc) | exact HK.out)) hk (.inl rfl)); replace HB := Aside0.mk hb; replace HI0 := Aside0.mk hi; clear hb hk hi) | ((with_reducible refine gk_ 61 ?_); refine gl_ 19 Try.func61 #[.pointer (some ⟨g, 0, none⟩)] ?_; (with_reducible refine (spec_l1Byte.calls g s0_0 t605 t606 t607 t608 t609 w0 _ ?side1 ?side2 A9.out).mono ?_); (case side1 => repeat (first | (with_reducible first | exact HI0.out | apply IsS84.alloc | apply IsS84.drewN | apply IsS84.drew | apply IsS84.set_1 | apply IsS84.set_2) | exact HI0.out)); (case side2 => repeat (first | (with_reducible first | exact HB.out | apply below_alloc | apply pw_below_drewN | apply below_drew1 | refine below_set ?_ (IsS84.ge HI0.out)) | exact HB.out)); rintro e w13 ⟨rfl, hi, hb, hk⟩; refine ⟨_, rfl, ?_⟩; replace HK := Aside0.mk (KeepBut.trans (by repeat (first | (with_reducible first | exact HK.out | apply KeepBut.set_ | apply keep_drewN | apply keep_drew | apply keep_alloc) | exact HK.out)) hk (.inl rfl)); replace HB := Aside0.mk hb; replace HI0 := Aside0.mk hi; clear hb hk hi) | ((with_reducible refine gk_ 61 ?_); refine gl_ 21 Try.func61 #[.pointer (some ⟨g, 0, none⟩)] ?_; (with_reducible refine (spec_l1Byte.calls g s0_0 t608 t609 t610 t611 t612 w0 _ ?side1 ?side2 A10.out).mono ?_); (case side1 => repeat (first | (with_reducible first | exact HI0.out | apply IsS84.alloc | apply IsS84.drewN | apply IsS84.drew | apply IsS84.set_1 | apply IsS84.set_2) | exact HI0.out)); (case side2 => repeat (first | (with_reducible first | exact HB.out | apply below_alloc | apply pw_below_drewN | apply below_drew1 | refine below_set ?_ (IsS84.ge HI0.out)) | exact HB.out)); rintro e w14 ⟨rfl, hi, hb, hk⟩; refine ⟨_, rfl, ?_⟩; replace HK := Aside0.mk (KeepBut.trans (by repeat (first | (with_reducible first | exact HK.out | apply KeepBut.set_ | apply keep_drewN | apply keep_drew | apply keep_alloc) | exact HK.out)) hk (.inl rfl)); replace HB := Aside0.mk hb; replace HI0 := Aside0.mk hi; clear hb hk hi))
   go_ret
   exact ⟨e2_, by repeat (first | (with_reducible first | exact HI0.out | apply IsS84.alloc | apply IsS84.drewN | apply IsS84.drew | apply IsS84.set_1 | apply IsS84.set_2) | exact HI0.out), by repeat (first | (with_reducible first | exact HB.out | apply below_alloc | apply pw_below_drewN | apply below_drew1 | refine below_set ?_ (IsS84.ge HI0.out)) | exact HB.out), by repeat (first | (with_reducible first | exact HK.out | apply KeepBut.set_ | apply keep_drewN | apply keep_drew | apply keep_alloc) | exact HK.out)⟩
end Go.Proofs.Ytnlndmoecljicaa.Q
end

section
-- Written by a program of this session (wip/tools/pp.sh) over the print of the kit.
namespace Go.Proofs.Ytnlndmoecljicaa.Q
open Go.RowKit Go.Proofs.YtnlndmoecljicaaW.PrintWords Go.Proofs.YtnlndmoecljicaaW.PrintLast Go.Proofs.YtnlndmoecljicaaW.PrintMore
attribute [local go_sem] max2_int min2_int max_two min_two max_three min_three max_four min_four   -- for this text's walks alone
set_option linter.unusedVariables false
set_option linter.unusedSimpArgs false
def spec_l1Int.f (s0_0 : List Int) (s0_1 : Int) (s0_2 : Int) (l1 : List Int) : Option (Int × Int × Int) := (spec_l1Below.f s0_0 s0_1 s0_2 (l1.length : Int)).bind fun bt601 => (if 0 ≤ bt601.1 then (if bt601.1 < (l1.length : Int) then (some (rd l1 bt601.1, bt601.2.1, bt601.2.2)) else (none)) else (none))
set_option maxHeartbeats 8000000 in
set_option maxRecDepth 100000 in
theorem spec_l1Int.calls (g : Nat) (s0_0 : List Int) (s0_1 : Int) (s0_2 : Int) (A1 : Option Addr) (c1 : Nat) (l1 : List Int) (r1 : Int) (r2 : Int) (r3 : Int) (w0 w : World) (hI : IsS84 w0 w g s0_0 s0_1 s0_2) (hB : Below w0.heap.size w0 w) (hr1 : Kd.C (Kd.int .i64) w A1 l1.length l1) (hc1 : l1.length ≤ c1) (hf1 : ∀ ad, A1 = some ad → 0 < l1.length → ad.block ≠ g) (h : spec_l1Int.f s0_0 s0_1 s0_2 l1 = some (r1, r2, r3)) :
  Calls Try.prog 28 #[.pointer (some ⟨g, 0, none⟩), .slice A1 l1.length c1] w fun e w' => e = .returned (.int .i64 r1) ∧ IsS84 w0 w' g s0_0 r2 r3 ∧ Below w0.heap.size w0 w' ∧ KeepBut w w' g none := by
 have HR1 := Aside0.mk hr1
 have HC1 := Aside0.mk hc1
 clear hr1 hc1
 have HI0 := Aside0.mk hI
 have HK := Aside0.mk (KeepBut.refl w g none)
 have HL := Aside0.mk hB.size
 clear hI
 have HW0 := Aside0.mk hB.size
 have HB := Aside0.mk hB
 clear hB
 have H : ((spec_l1Below.f s0_0 s0_1 s0_2 (l1.length : Int)).bind fun bt601 => (if 0 ≤ bt601.1 then (if bt601.1 < (l1.length : Int) then (some (rd l1 bt601.1, bt601.2.1, bt601.2.2)) else (none)) else (none))) = some (r1, r2, r3) := h
 clear h
 replace H := bi_ H; obtain ⟨⟨t601, t602, t603⟩, A3, H⟩ := H
 dsimp only at H
 replace H := ipd_ H; obtain ⟨c4b0, H⟩ := H
 replace H := ipd_ H; obtain ⟨c5b0, H⟩ := H
 replace H := so3_ H; obtain ⟨rfl, rfl, rfl⟩ := H
 go_enter Try.func28, Try.ntmps28
 go_wp2_with (first | ((with_reducible refine gk_ 27 ?_); refine gl_ 9 Try.func27 #[.pointer (some ⟨g, 0, none⟩), .int .i64 (l1.length : Int)] ?_; (with_reducible refine (spec_l1Below.calls g s0_0 s0_1 s0_2 (l1.length : Int) t601 t602 t603 w0 _ ?side1 ?side2 A3.out).mono ?_); (case side1 => repeat (first | (with_reducible first | exact HI0.out | apply IsS84.alloc | apply IsS84.drewN | apply IsS84.drew | apply IsS84.set_1 | apply IsS84.set_2) | exact HI0.out)); (case side2 => repeat (first | (with_reducible first | exact HB.out | apply below_alloc | apply pw_below_drewN | apply below_drew1 | refine below_set ?_ (IsS84.ge HI0.out)) | exact HB.out)); rintro e w6 ⟨rfl, hi, hb, hk⟩; refine ⟨_, rfl, ?_⟩; replace HK := Aside0.mk (KeepBut.trans (by repeat (first | (with_reducible first | exact HK.out | apply KeepBut.set_ | apply keep_drewN | apply keep_drew | apply keep_alloc) | exact HK.out)) hk (.inl rfl)); replace HB := Aside0.mk hb; replace HI0 := Aside0.mk hi; clear hb hk hi; have p604 : 0 ≤ (t601 : Int) := of_decide_eq_true as_; have q604 : t601 < (l1.length : Int) := of_decide_eq_true as_; obtain ⟨ad604, e604, hx604_0⟩ := Kd.at_int HR1.out t601 p604 q604; cases e604; replace hx604_0 := keep_cell HK.out hx604_0 (by first | (rw [add_block]; exact hf1 _ rfl (by omega)) | exact hf1 _ rfl (by omega) | exact hf1 ad604 rfl (by omega)); replace p604 := eq_true p604; replace q604 := eq_true q604))
 go_ret
 exact ⟨e2_, by repeat (first | (with_reducible first | exact HI0.out | apply IsS84.alloc | apply IsS84.drewN | apply IsS84.drew | apply IsS84.set_1 | apply IsS84.set_2) | exact HI0.out), by repeat (first | (with_reducible first | exact HB.out | apply below_alloc | apply pw_below_drewN | apply below_drew1 | refine below_set ?_ (IsS84.ge HI0.out)) | exact HB.out), by repeat (first | (with_reducible first | exact HK.out | apply KeepBut.set_ | apply keep_drewN | apply keep_drew | apply keep_alloc) | exact HK.out)⟩
end Go.Proofs.Ytnlndmoecljicaa.Q
end

section
-- Written by a program of this session (wip/tools/pp.sh) over the print of the kit.
namespace Go.Proofs.Ytnlndmoecljicaa.Q
open Go.RowKit Go.Proofs.YtnlndmoecljicaaW.PrintWords Go.Proofs.YtnlndmoecljicaaW.PrintLast Go.Proofs.YtnlndmoecljicaaW.PrintMore
attribute [local go_sem] max2_int min2_int max_two min_two max_three min_three max_four min_four   -- for this text's walks alone
set_option linter.unusedVariables false
set_option linter.unusedSimpArgs false
def spec_l1Str.f (s0_0 : List Int) (s0_1 : Int) (s0_2 : Int) (l1 : List ByteArray) : Option (ByteArray × Int × Int) := (spec_l1Below.f s0_0 s0_1 s0_2 (l1.length : Int)).bind fun bt601 => (if 0 ≤ bt601.1 then (if bt601.1 < (l1.length : Int) then (some (rdOf ByteArray.empty l1 bt601.1, bt601.2.1, bt601.2.2)) else (none)) else (none))
set_option maxHeartbeats 8000000 in
set_option maxRecDepth 100000 in
theorem spec_l1Str.calls (g : Nat) (s0_0 : List Int) (s0_1 : Int) (s0_2 : Int) (A1 : Option Addr) (c1 : Nat) (l1 : List ByteArray) (r1 : ByteArray) (r2 : Int) (r3 : Int) (w0 w : World) (hI : IsS84 w0 w g s0_0 s0_1 s0_2) (hB : Below w0.heap.size w0 w) (hr1 : Kd.C Kd.string w A1 l1.length l1) (hc1 : l1.length ≤ c1) (hf1 : ∀ ad, A1 = some ad → 0 < l1.length → ad.block ≠ g) (h : spec_l1Str.f s0_0 s0_1 s0_2 l1 = some (r1, r2, r3)) :
  Calls Try.prog 82 #[.pointer (some ⟨g, 0, none⟩), .slice A1 l1.length c1] w fun e w' => e = .returned (.string r1) ∧ IsS84 w0 w' g s0_0 r2 r3 ∧ Below w0.heap.size w0 w' ∧ KeepBut w w' g none := by
 have HR1 := Aside0.mk hr1
 have HC1 := Aside0.mk hc1
 clear hr1 hc1
 have HI0 := Aside0.mk hI
 have HK := Aside0.mk (KeepBut.refl w g none)
 have HL := Aside0.mk hB.size
 clear hI
 have HW0 := Aside0.mk hB.size
 have HB := Aside0.mk hB
 clear hB
 have H : ((spec_l1Below.f s0_0 s0_1 s0_2 (l1.length : Int)).bind fun bt601 => (if 0 ≤ bt601.1 then (if bt601.1 < (l1.length : Int) then (some (rdOf ByteArray.empty l1 bt601.1, bt601.2.1, bt601.2.2)) else (none)) else (none))) = some (r1, r2, r3) := h
 clear h
 replace H := bi_ H; obtain ⟨⟨t601, t602, t603⟩, A3, H⟩ := H
 dsimp only at H
 replace H := ipd_ H; obtain ⟨c4b0, H⟩ := H
 replace H := ipd_ H; obtain ⟨c5b0, H⟩ := H
 replace H := so3_ H; obtain ⟨rfl, rfl, rfl⟩ := H
 go_enter Try.func82, Try.ntmps82
 go_wp2_with (first | ((with_reducible refine gk_ 27 ?_); refine gl_ 9 Try.func27 #[.pointer (some ⟨g, 0, none⟩), .int .i64 (l1.length : Int)] ?_; (with_reducible refine (spec_l1Below.calls g s0_0 s0_1 s0_2 (l1.length : Int) t601 t602 t603 w0 _ ?side1 ?side2 A3.out).mono ?_); (case side1 => repeat (first | (with_reducible first | exact HI0.out | apply IsS84.alloc | apply IsS84.drewN | apply IsS84.drew | apply IsS84.set_1 | apply IsS84.set_2) | exact HI0.out)); (case side2 => repeat (first | (with_reducible first | exact HB.out | apply below_alloc | apply pw_below_drewN | apply below_drew1 | refine below_set ?_ (IsS84.ge HI0.out)) | exact HB.out)); rintro e w6 ⟨rfl, hi, hb, hk⟩; refine ⟨_, rfl, ?_⟩; replace HK := Aside0.mk (KeepBut.trans (by repeat (first | (with_reducible first | exact HK.out | apply KeepBut.set_ | apply keep_drewN | apply keep_drew | apply keep_alloc) | exact HK.out)) hk (.inl rfl)); replace HB := Aside0.mk hb; replace HI0 := Aside0.mk hi; clear hb hk hi; have p604 : 0 ≤ (t601 : Int) := of_decide_eq_true as_; have q604 : t601 < (l1.length : Int) := of_decide_eq_true as_; obtain ⟨ad604, e604, hx604_0⟩ := Kd.at_string HR1.out t601 p604 q604; cases e604; replace hx604_0 := keep_cell HK.out hx604_0 (by first | (rw [add_block]; exact hf1 _ rfl (by omega)) | exact hf1 _ rfl (by omega) | exact hf1 ad604 rfl (by omega)); replace p604 := eq_true p604; replace q604 := eq_true q604))
 go_ret
 exact ⟨e2_, by repeat (first | (with_reducible first | exact HI0.out | apply IsS84.alloc | apply IsS84.drewN | apply IsS84.drew | apply IsS84.set_1 | apply IsS84.set_2) | exact HI0.out), by repeat (first | (with_reducible first | exact HB.out | apply below_alloc | apply pw_below_drewN | apply below_drew1 | refine below_set ?_ (IsS84.ge HI0.out)) | exact HB.out), by repeat (first | (with_reducible first | exact HK.out | apply KeepBut.set_ | apply keep_drewN | apply keep_drew | apply keep_alloc) | exact HK.out)⟩
end Go.Proofs.Ytnlndmoecljicaa.Q
end

section
/- Drawing out of bytes: what is drawn lies where it should. Plain. -/
namespace Go.Proofs.Ytnlndmoecljicaa.Q
open Go.RowKit Go.Proofs.Ytnlndmoecljicaa.B Go.Proofs.YtnlndmoecljicaaW.PrintWords Go.Proofs.YtnlndmoecljicaaW.PrintMore
set_option linter.unusedVariables false
set_option linter.unusedSimpArgs false

/-- A drawer: its bytes, and how many of them are drawn. -/
def Drawer (s : List Int) (i : Int) : Prop := 0 ≤ i ∧ i ≤ (s.length : Int) ∧ s.length ≤ 1048576
theorem mask255 (y : Int) : 0 ≤ Go.bits .and .i64 y 255 ∧ Go.bits .and .i64 y 255 ≤ 255 := by
  have h : (BitVec.ofInt 64 y &&& BitVec.ofInt 64 255).toNat ≤ 255 := by
    rw [BitVec.toNat_and]
    exact Nat.le_trans Nat.and_le_right (by decide)
  have e : Go.bits .and .i64 y 255 = IntKind.i64.wrap ((BitVec.ofInt 64 y &&& BitVec.ofInt 64 255).toNat : Int) := rfl
  generalize (BitVec.ofInt 64 y &&& BitVec.ofInt 64 255).toNat = m at h e
  rw [e, wraps63 _ (Int.natCast_nonneg _) (by omega)]
  omega
theorem l1Byte_ok {s : List Int} {i : Int} (h : Int) (hd : Drawer s i) : ∃ b i' h', spec_l1Byte.f s i h = some (b, i', h') ∧ 0 ≤ b ∧ b ≤ 255 ∧ Drawer s i' := by
  obtain ⟨h0, h1, h2⟩ := hd
  unfold spec_l1Byte.f
  by_cases hc : i < (s.length : Int)
  · rw [if_pos hc, if_pos h0]
    exact ⟨_, _, _, rfl, (mask255 _).1, (mask255 _).2, by rw [w64 (by omega) (by omega)]; omega, by rw [w64 (by omega) (by omega)]; omega, h2⟩
  · rw [if_neg hc]
    exact ⟨_, _, _, rfl, (mask255 _).1, (mask255 _).2, h0, h1, h2⟩
theorem l1Below_ok {s : List Int} {i : Int} (h n : Int) (hd : Drawer s i) (hn : 1 ≤ n) (hn2 : n ≤ 4294967296) : ∃ b i' h', spec_l1Below.f s i h n = some (b, i', h') ∧ 0 ≤ b ∧ b < n ∧ Drawer s i' := by
  unfold spec_l1Below.f
  rw [if_neg (by omega)]
  obtain ⟨b, i1, h1, e1, b0, b1, d1⟩ := l1Byte_ok h hd
  by_cases hc : n ≤ 256
  · rw [if_pos hc, e1]
    simp only [Option.bind_some]
    rw [if_neg (by omega)]
    refine ⟨_, _, _, rfl, ?_, ?_, d1⟩
    · rw [Int.tmod_eq_emod_of_nonneg b0]
      exact Int.emod_nonneg _ (by omega)
    · rw [Int.tmod_eq_emod_of_nonneg b0]
      exact Int.emod_lt_of_pos _ (by omega)
  · obtain ⟨b', i2, h2, e2, b0', b1', d2⟩ := l1Byte_ok h1 d1
    obtain ⟨b'', i3, h3, e3, b0'', b1'', d3⟩ := l1Byte_ok h2 d2
    rw [if_neg hc, e1]
    simp only [Option.bind_some]
    rw [e2]
    simp only [Option.bind_some]
    rw [e3]
    simp only [Option.bind_some]
    rw [if_neg (by omega)]
    have e : wrap64 ((wrap64 ((wrap64 (b * 65536)) + (wrap64 (b' * 256)))) + b'') = b * 65536 + b' * 256 + b'' := by
      rw [w64 (x := b * 65536) (by omega) (by omega), w64 (x := b' * 256) (by omega) (by omega), w64 (x := b * 65536 + b' * 256) (by omega) (by omega), w64 (by omega) (by omega)]
    rw [e]
    refine ⟨_, _, _, rfl, ?_, ?_, d3⟩
    · rw [Int.tmod_eq_emod_of_nonneg (by omega)]
      exact Int.emod_nonneg _ (by omega)
    · rw [Int.tmod_eq_emod_of_nonneg (by omega)]
      exact Int.emod_lt_of_pos _ (by omega)
theorem l1Int_ok {s : List Int} {i : Int} (h : Int) (l : List Int) (hd : Drawer s i) (hn : 1 ≤ l.length) (hn2 : l.length ≤ 4294967296) : ∃ x i' h', spec_l1Int.f s i h l = some (x, i', h') ∧ x ∈ l ∧ Drawer s i' := by
  obtain ⟨b, i1, h1, e1, b0, b1, d1⟩ := l1Below_ok h (l.length : Int) hd (by omega) (by omega)
  unfold spec_l1Int.f
  rw [e1]
  simp only [Option.bind_some]
  rw [if_pos b0, if_pos b1]
  obtain ⟨x, hx⟩ := get_some (l := l) (i := b.toNat) (by omega)
  refine ⟨_, _, _, rfl, ?_, d1⟩
  have : rd l b = x := by
    unfold rd
    simp [List.getD_eq_getElem?_getD, hx]
  rw [this]
  exact List.mem_of_getElem? hx
theorem l1Str_ok {s : List Int} {i : Int} (h : Int) (l : List ByteArray) (hd : Drawer s i) (hn : 1 ≤ l.length) (hn2 : l.length ≤ 4294967296) : ∃ x i' h', spec_l1Str.f s i h l = some (x, i', h') ∧ x ∈ l ∧ Drawer s i' := by
  obtain ⟨b, i1, h1, e1, b0, b1, d1⟩ := l1Below_ok h (l.length : Int) hd (by omega) (by omega)
  unfold spec_l1Str.f
  rw [e1]
  simp only [Option.bind_some]
  rw [if_pos b0, if_pos b1]
  obtain ⟨x, hx⟩ := get_some (l := l) (i := b.toNat) (by omega)
  refine ⟨_, _, _, rfl, ?_, d1⟩
  have : rdOf ByteArray.empty l b = x := by
    unfold rdOf
    simp [List.getD_eq_getElem?_getD, hx]
  rw [this]
  exact List.mem_of_getElem? hx
theorem l1New_ev (l : List Int) (hl : l.length ≤ 1048576) : ∃ h, Ev (fun k => spec_l1New.f k l) (l, 0, h) := by
  have main : ∀ (d : Nat) (i : Nat) (x : Int), i + d = l.length → ∃ h, Ev (fun k => spec_l1New.l0 k l x (i : Int)) (l, 0, h) := by
    intro d
    induction d with
    | zero =>
      intro i x hi
      refine ⟨x, Ev.step (f := fun _ => some (l, 0, x)) (fun k => ?_) (Ev.now _)⟩
      simp only [spec_l1New.l0]
      rw [if_neg (by omega)]
    | succ d ih =>
      intro i x hi
      by_cases hc : (i : Int) < 4000
      · obtain ⟨h, e⟩ := ih (i + 1) (Go.bits .and .i64 (wrap64 ((wrap64 ((wrap64 (x * 137)) + (wrap64 (rd l i)))) + 11)) 1073741823) (by omega)
        refine ⟨h, Ev.step (fun k => ?_) e⟩
        simp only [spec_l1New.l0]
        rw [if_pos (by omega), if_pos hc, if_pos (by omega), w64 (x := (i : Int) + 1) (by omega) (by omega)]
        rfl
      · refine ⟨x, Ev.step (f := fun _ => some (l, 0, x)) (fun k => ?_) (Ev.now _)⟩
        simp only [spec_l1New.l0]
        rw [if_pos (by omega), if_neg hc]
  exact main l.length 0 (wrap64 (372372 + (l.length : Int))) (by omega)
theorem Drawer.new {l : List Int} (hl : l.length ≤ 1048576) : Drawer l 0 := ⟨by omega, by omega, hl⟩
end Go.Proofs.Ytnlndmoecljicaa.Q
end

section
-- Written by a program of this session (wip/tools/pp.sh) over the print of the kit.
namespace Go.Proofs.Ytnlndmoecljicaa.Q
open Go.RowKit Go.Proofs.YtnlndmoecljicaaW.PrintWords Go.Proofs.YtnlndmoecljicaaW.PrintLast Go.Proofs.YtnlndmoecljicaaW.PrintMore
attribute [local go_sem] max2_int min2_int max_two min_two max_three min_three max_four min_four   -- for this text's walks alone
set_option linter.unusedVariables false
set_option linter.unusedSimpArgs false
def spec_l6List.l0 : Nat → List ByteArray → Int → List Int → Int → Int → Option (List ByteArray × Int × Int)
 | 0, _, _, _, _, _ => none
 | k + 1, x3, x4, x1000, x1001, x1002 => if x4 > 0 then ((spec_l1Str.f x1000 x1001 x1002 (([(⟨#[]⟩ : ByteArray), (⟨#[97]⟩ : ByteArray), (⟨#[98]⟩ : ByteArray), (⟨#[120, 121, 122]⟩ : ByteArray)] : List ByteArray))).bind fun bt613 => (if x3.length < 8796093022208 then (spec_l6List.l0 k (x3 ++ [bt613.1]) (wrap64 (x4 - 1)) x1000 bt613.2.1 bt613.2.2) else (none))) else (some (x3, x1001, x1002))
def spec_l6List.f (k : Nat) (s0_0 : List Int) (s0_1 : Int) (s0_2 : Int) : Option (List ByteArray × Int × Int) := (spec_l1Int.f s0_0 s0_1 s0_2 (([0, 1, 2, 3, 4, 5, 7, 8, 6] : List Int))).bind fun bt607 => (spec_l6List.l0 k (([] : List ByteArray)) bt607.1 s0_0 bt607.2.1 bt607.2.2)
set_option maxHeartbeats 8000000 in
set_option maxRecDepth 100000 in
theorem spec_l6List.calls (k : Nat) (g : Nat) (s0_0 : List Int) (s0_1 : Int) (s0_2 : Int) (r1 : List ByteArray) (r2 : Int) (r3 : Int) (w0 w : World) (hI : IsS84 w0 w g s0_0 s0_1 s0_2) (hB : Below w0.heap.size w0 w) (h : spec_l6List.f k s0_0 s0_1 s0_2 = some (r1, r2, r3)) :
  Calls Try.prog 60 #[.pointer (some ⟨g, 0, none⟩)] w fun e w' => ∃ v0_ : Value, e = .returned (v0_) ∧ Kd.R Kd.string 9 w' w.heap.size (fun _ => True) v0_ r1 ∧ IsS84 w0 w' g s0_0 r2 r3 ∧ Below w0.heap.size w0 w' ∧ KeepBut w w' g none := by
 have HI0 := Aside0.mk hI
 have HK := Aside0.mk (KeepBut.refl w g none)
 have HL := Aside0.mk hB.size
 clear hI
 have HW0 := Aside0.mk hB.size
 have HB := Aside0.mk hB
 clear hB
 have H : ((spec_l1Int.f s0_0 s0_1 s0_2 (([0, 1, 2, 3, 4, 5, 7, 8, 6] : List Int))).bind fun bt607 => (spec_l6List.l0 k (([] : List ByteArray)) bt607.1 s0_0 bt607.2.1 bt607.2.2)) = some (r1, r2, r3) := h
 clear h
 obtain ⟨y601, hy601⟩ : ∃ y_ : List ByteArray, y_ = (([] : List ByteArray)) := ⟨_, rfl⟩
 replace H : ((spec_l1Int.f s0_0 s0_1 s0_2 (([0, 1, 2, 3, 4, 5, 7, 8, 6] : List Int))).bind fun bt607 => (spec_l6List.l0 k y601 bt607.1 s0_0 bt607.2.1 bt607.2.2)) = some (r1, r2, r3) := yh_ hy601 H
 have Ny601 := Aside0.mk hy601
 clear hy601
 obtain ⟨y604, hy604⟩ : ∃ y_ : List Int, y_ = (([0, 1, 2, 3, 4, 5, 7, 8, 6] : List Int)) := ⟨_, rfl⟩
 replace H : ((spec_l1Int.f s0_0 s0_1 s0_2 y604).bind fun bt607 => (spec_l6List.l0 k y601 bt607.1 s0_0 bt607.2.1 bt607.2.2)) = some (r1, r2, r3) := yh_ hy604 H
 have Ny604 := Aside0.mk hy604
 clear hy604
 replace H := bi_ H; obtain ⟨⟨t607, t608, t609⟩, A2, H⟩ := H
 dsimp only at H
 have H' := Aside0.mk H
 clear H
 go_enter Try.func60, Try.ntmps60
 go_wp2_with (first | ((with_reducible refine gd_ 5 ?_); refine rl_ Kd.string 9 5 ([] : List ByteArray) [] ?_; intro v602 w3 ho4 hb hg_ hnew_; clear hg_ hnew_; (first | rw [← Ny601.out] at ho4 | (simp only [Int.reduceToNat] at ho4; rw [← Ny601.out] at ho4)); have HO603 := Aside0.mk (Kd.R_lower ho4 (keep_size (w := w) (g := g) (row := none) (by repeat (first | (with_reducible first | exact HK.out | apply KeepBut.set_ | apply keep_drewN | apply keep_drew | apply keep_alloc) | exact HK.out)))); replace HK := Aside0.mk (KeepBut.trans (by repeat (first | (with_reducible first | exact HK.out | apply KeepBut.set_ | apply keep_drewN | apply keep_drew | apply keep_alloc) | exact HK.out)) (KeepBut.of_below hb g none) (.inl rfl)); replace HB := Aside0.mk (below_step (bs1_ HB (IsS84.ge HI0.out)) hb); replace HI0 := Aside0.mk (IsS84.below (by repeat (first | (with_reducible first | exact HI0.out | apply IsS84.alloc | apply IsS84.drewN | apply IsS84.drew | apply IsS84.set_1 | apply IsS84.set_2) | exact HI0.out)) hb); clear hb ho4) | ((with_reducible refine gd_ 7 ?_); refine rl_ (Kd.int .i64) 3 7 ([0, 1, 2, 3, 4, 5, 7, 8, 6] : List Int) [.int .i64 0, .int .i64 1, .int .i64 2, .int .i64 3, .int .i64 4, .int .i64 5, .int .i64 7, .int .i64 8, .int .i64 6] ?_; intro v605 w5 ho6 hb hg_ hnew_; clear hg_ hnew_; (first | rw [← Ny604.out] at ho6 | (simp only [Int.reduceToNat] at ho6; rw [← Ny604.out] at ho6)); replace HO603 := rb_ HO603 hb; have HO606 := Aside0.mk (Kd.R_lower ho6 (keep_size (w := w) (g := g) (row := none) (by repeat (first | (with_reducible first | exact HK.out | apply KeepBut.set_ | apply keep_drewN | apply keep_drew | apply keep_alloc) | exact HK.out)))); replace HK := Aside0.mk (KeepBut.trans (by repeat (first | (with_reducible first | exact HK.out | apply KeepBut.set_ | apply keep_drewN | apply keep_drew | apply keep_alloc) | exact HK.out)) (KeepBut.of_below hb g none) (.inl rfl)); replace HB := Aside0.mk (below_step (bs1_ HB (IsS84.ge HI0.out)) hb); replace HI0 := Aside0.mk (IsS84.below (by repeat (first | (with_reducible first | exact HI0.out | apply IsS84.alloc | apply IsS84.drewN | apply IsS84.drew | apply IsS84.set_1 | apply IsS84.set_2) | exact HI0.out)) hb); clear hb ho6; obtain ⟨Ao7, co7, eo7⟩ := Kd.R_slice HO606.out; subst eo7) | ((with_reducible refine gk_ 28 ?_); refine gl_ 8 Try.func28 #[.pointer (some ⟨g, 0, none⟩), .slice Ao7 y604.length co7] ?_; (with_reducible refine (spec_l1Int.calls g s0_0 s0_1 s0_2 _ _ y604 t607 t608 t609 w0 _ ?side1 ?side2 ?side3 ?side4 ?side5 A2.out).mono ?_); (case side1 => repeat (first | (with_reducible first | exact HI0.out | apply IsS84.alloc | apply IsS84.drewN | apply IsS84.drew | apply IsS84.set_1 | apply IsS84.set_2) | exact HI0.out)); (case side2 => repeat (first | (with_reducible first | exact HB.out | apply below_alloc | apply pw_below_drewN | apply below_drew1 | refine below_set ?_ (IsS84.ge HI0.out)) | exact HB.out)); (case side3 => exact ch_ HO606); (case side4 => exact (cl_ HO606)); (case side5 => exact far_slice (IsS84.own_ne HI0.out HO606.out (by decide))); rintro e w8 ⟨rfl, hi, hb, hk⟩; refine ⟨_, rfl, ?_⟩; replace HO603 := Aside0.mk (Kd.R_mono (Kd.R_keep (IsS84.apart (show IsS84 w0 _ g s0_0 s0_1 s0_2 from by repeat (first | (with_reducible first | exact HI0.out | apply IsS84.alloc | apply IsS84.drewN | apply IsS84.drew | apply IsS84.set_1 | apply IsS84.set_2) | exact HI0.out)) (kr_ HO603.out) (by decide)) hk (fun _ h => h.2)) (fun _ h => h.1)); replace HO606 := Aside0.mk (Kd.R_mono (Kd.R_keep (IsS84.apart (show IsS84 w0 _ g s0_0 s0_1 s0_2 from by repeat (first | (with_reducible first | exact HI0.out | apply IsS84.alloc | apply IsS84.drewN | apply IsS84.drew | apply IsS84.set_1 | apply IsS84.set_2) | exact HI0.out)) (kr_ HO606.out) (by decide)) hk (fun _ h => h.2)) (fun _ h => h.1)); replace HK := Aside0.mk (KeepBut.trans (by repeat (first | (with_reducible first | exact HK.out | apply KeepBut.set_ | apply keep_drewN | apply keep_drew | apply keep_alloc) | exact HK.out)) hk (.inl rfl)); replace HB := Aside0.mk hb; replace HI0 := Aside0.mk hi; clear hb hk hi))
 go_loopg [3, 4] k (fun kq v3 v4 w' => ∃ (x3_1 : List ByteArray) (x4_1 : Int) (x1001_1 : Int) (x1002_1 : Int), v4 = .int .i64 x4_1 ∧ Aside0 (spec_l6List.l0 kq x3_1 x4_1 s0_0 x1001_1 x1002_1 = some (r1, r2, r3)) ∧ Aside0 (kq ≤ k) ∧ Aside0 (Kd.R Kd.string 9 w' w.heap.size (fun _ => True) v3 x3_1) ∧ Aside0 (IsS84 w0 w' g s0_0 x1001_1 x1002_1) ∧ Aside0 (KeepBut w w' g none) ∧ Aside0 (Below w0.heap.size w0 w'))
 case atStart => exact ⟨(y601), (t607), (t608), (t609), e1_, H', ⟨Nat.le_refl _⟩, ⟨kr_ HO603.out⟩, ⟨by repeat (first | (with_reducible first | exact HI0.out | apply IsS84.alloc | apply IsS84.drewN | apply IsS84.drew | apply IsS84.set_1 | apply IsS84.set_2) | exact HI0.out)⟩, ⟨by repeat (first | (with_reducible first | exact HK.out | apply KeepBut.set_ | apply keep_drewN | apply keep_drew | apply keep_alloc) | exact HK.out)⟩, ⟨by repeat (first | (with_reducible first | exact HB.out | apply below_alloc | apply pw_below_drewN | apply below_drew1 | refine below_set ?_ (IsS84.ge HI0.out)) | exact HB.out)⟩⟩
 case round =>
  clear H'
  obtain ⟨x3_1, x4_1, x1001_1, x1002_1, rfl, HA, HK1, HO_3, HI0, HK, HB⟩ := hrel
  cases gk with
  | zero => exact absurd HA.out (by simp [spec_l6List.l0])
  | succ k1 =>
   have H := HA.out
   clear HA
   simp only [spec_l6List.l0] at H
   replace H := it_ H; obtain ⟨c9, H⟩ | ⟨c9, H⟩ := H
   ·have c9b0 : decide (0 < x4_1) = true := decide_eq_true c9
    clear c9
    obtain ⟨y610, hy610⟩ : ∃ y_ : List ByteArray, y_ = (([(⟨#[]⟩ : ByteArray), (⟨#[97]⟩ : ByteArray), (⟨#[98]⟩ : ByteArray), (⟨#[120, 121, 122]⟩ : ByteArray)] : List ByteArray)) := ⟨_, rfl⟩
    replace H : ((spec_l1Str.f s0_0 x1001_1 x1002_1 y610).bind fun bt613 => (if x3_1.length < 8796093022208 then (spec_l6List.l0 k1 (x3_1 ++ [bt613.1]) (wrap64 (x4_1 - 1)) s0_0 bt613.2.1 bt613.2.2) else (none))) = some (r1, r2, r3) := yh_ hy610 H
    have Ny610 := Aside0.mk hy610
    clear hy610
    replace H := bi_ H; obtain ⟨⟨t613, t614, t615⟩, A10, H⟩ := H
    dsimp only at H
    replace H := ip_ H; obtain ⟨c11, H⟩ := H
    have LMc11 := Aside0.mk c11
    clear c11
    obtain ⟨y616, hy616⟩ : ∃ y_ : List ByteArray, y_ = (x3_1 ++ [t613]) := ⟨_, rfl⟩
    replace H : (spec_l6List.l0 k1 y616 (wrap64 (x4_1 - 1)) s0_0 t614 t615) = some (r1, r2, r3) := yh_ hy616 H
    have Ny616 := Aside0.mk hy616
    clear hy616
    have H' := Aside0.mk H
    clear H
    go_wp2_with (first | ((with_reducible refine gd_ 15 ?_); refine rl_ Kd.string 9 15 ([(⟨#[]⟩ : ByteArray), (⟨#[97]⟩ : ByteArray), (⟨#[98]⟩ : ByteArray), (⟨#[120, 121, 122]⟩ : ByteArray)] : List ByteArray) [.string (⟨#[]⟩ : ByteArray), .string (⟨#[97]⟩ : ByteArray), .string (⟨#[98]⟩ : ByteArray), .string (⟨#[120, 121, 122]⟩ : ByteArray)] ?_; intro v611 w12 ho13 hb hg_ hnew_; clear hg_ hnew_; (first | rw [← Ny610.out] at ho13 | (simp only [Int.reduceToNat] at ho13; rw [← Ny610.out] at ho13)); have HO612 := Aside0.mk (Kd.R_lower (Kd.R_new' ho13 (lt_ HO_3)) (keep_size (w := w) (g := g) (row := none) (by repeat (first | (with_reducible first | exact HK.out | apply KeepBut.set_ | apply keep_drewN | apply keep_drew | apply keep_alloc) | exact HK.out)))); replace HO_3 := re_ HO_3 ho13 hb; replace HK := Aside0.mk (KeepBut.trans (by repeat (first | (with_reducible first | exact HK.out | apply KeepBut.set_ | apply keep_drewN | apply keep_drew | apply keep_alloc) | exact HK.out)) (KeepBut.of_below hb g none) (.inl rfl)); replace HB := Aside0.mk (below_step (bs1_ HB (IsS84.ge HI0.out)) hb); replace HI0 := Aside0.mk (IsS84.below (by repeat (first | (with_reducible first | exact HI0.out | apply IsS84.alloc | apply IsS84.drewN | apply IsS84.drew | apply IsS84.set_1 | apply IsS84.set_2) | exact HI0.out)) hb); clear hb ho13; obtain ⟨Ao14, co14, eo14⟩ := Kd.R_slice HO612.out; subst eo14) | ((with_reducible refine gk_ 82 ?_); refine gl_ 16 Try.func82 #[.pointer (some ⟨g, 0, none⟩), .slice Ao14 y610.length co14] ?_; (with_reducible refine (spec_l1Str.calls g s0_0 x1001_1 x1002_1 _ _ y610 t613 t614 t615 w0 _ ?side1 ?side2 ?side3 ?side4 ?side5 A10.out).mono ?_); (case side1 => repeat (first | (with_reducible first | exact HI0.out | apply IsS84.alloc | apply IsS84.drewN | apply IsS84.drew | apply IsS84.set_1 | apply IsS84.set_2) | exact HI0.out)); (case side2 => repeat (first | (with_reducible first | exact HB.out | apply below_alloc | apply pw_below_drewN | apply below_drew1 | refine below_set ?_ (IsS84.ge HI0.out)) | exact HB.out)); (case side3 => exact ch_ HO612); (case side4 => exact (cl_ HO612)); (case side5 => exact far_slice (IsS84.own_ne HI0.out HO612.out (by decide))); rintro e w15 ⟨rfl, hi, hb, hk⟩; refine ⟨_, rfl, ?_⟩; replace HO_3 := Aside0.mk (Kd.R_mono (Kd.R_keep (IsS84.apart (show IsS84 w0 _ g s0_0 x1001_1 x1002_1 from by repeat (first | (with_reducible first | exact HI0.out | apply IsS84.alloc | apply IsS84.drewN | apply IsS84.drew | apply IsS84.set_1 | apply IsS84.set_2) | exact HI0.out)) (kr_ HO_3.out) (by decide)) hk (fun _ h => h.2)) (fun _ h => h.1)); replace HO612 := Aside0.mk (Kd.R_mono (Kd.R_keep (IsS84.apart (show IsS84 w0 _ g s0_0 x1001_1 x1002_1 from by repeat (first | (with_reducible first | exact HI0.out | apply IsS84.alloc | apply IsS84.drewN | apply IsS84.drew | apply IsS84.set_1 | apply IsS84.set_2) | exact HI0.out)) (kr_ HO612.out) (by decide)) hk (fun _ h => h.2)) (fun _ h => h.1)); replace HK := Aside0.mk (KeepBut.trans (by repeat (first | (with_reducible first | exact HK.out | apply KeepBut.set_ | apply keep_drewN | apply keep_drew | apply keep_alloc) | exact HK.out)) hk (.inl rfl)); replace HB := Aside0.mk hb; replace HI0 := Aside0.mk hi; clear hb hk hi) | ((with_reducible refine gate_builtin (b := .append) (xs := #[.tmp 13, .tmp 17]) rfl ?_); at_builtin; refine Kd.R_append Kd.string w.heap.size rfl (.tmp 13) (.tmp 17) 26 9 (.string ⟨#[]⟩) 16 rfl Try.underlying26 info9 rfl (by decide) (by omega) u3 x3_1 t613 [.string t613] (fun k_ => some k_ ≠ (.slice Ao14 y610.length co14 : Value).ownBlock) (fun _ => False) rfl rfl ?aP (fun _ hk => hk.elim) ?aF ?aO (Below.refl _ _) ?aS ?aL ?_; (case aP => exact rfl); (case aF => exact (fun k_ hk => Kd.fresh' (lt_ HO612) k_ hk)); (case aO => exact (kr_ (Kd.R_mono HO_3.out (fun _ hk => hk.2)))); (case aS => exact (keep_size (w := w) (g := g) (row := none) (by repeat (first | (with_reducible first | exact HK.out | apply KeepBut.set_ | apply keep_drewN | apply keep_drew | apply keep_alloc) | exact HK.out)))); (case aL => have := LMc11.out; omega); intro v617 w16 ho hb hg hat; rw [← Ny616.out] at ho; replace HO612 := Aside0.mk (Kd.R_after (ok := (fun _ => True)) (kr_ HO612.out) hg hat); replace HB := Aside0.mk (below_weaken (bs1_ HB (IsS84.ge HI0.out)) HL.out hb); replace HI0 := Aside0.mk (IsS84.grown (by repeat (first | (with_reducible first | exact HI0.out | apply IsS84.alloc | apply IsS84.drewN | apply IsS84.drew | apply IsS84.set_1 | apply IsS84.set_2) | exact HI0.out)) hg (IsS84.own_ne HI0.out HO_3.out (by decide))); replace HK := Aside0.mk (KeepBut.trans (by repeat (first | (with_reducible first | exact HK.out | apply KeepBut.set_ | apply keep_drewN | apply keep_drew | apply keep_alloc) | exact HK.out)) (KeepBut.of_grown hg g) (Kd.R_base2 HO_3.out)); have HO618 := Aside0.mk ho; clear HO_3; clear ho hb hg hat))
    go_roundg k1
    case measure => have := HK1.out; omega
    case rel => exact ⟨(y616), (wrap64 (x4_1 - 1)), (t614), (t615), e1_, H', ⟨by have := HK1.out; omega⟩, ⟨by (with_reducible repeat (first | apply Kd.R_alloc | apply Kd.R_drewN | apply Kd.R_drew)); exact Kd.R_mono HO618.out (fun _ hk => trivial)⟩, ⟨by repeat (first | (with_reducible first | exact HI0.out | apply IsS84.alloc | apply IsS84.drewN | apply IsS84.drew | apply IsS84.set_1 | apply IsS84.set_2) | exact HI0.out)⟩, ⟨by repeat (first | (with_reducible first | exact HK.out | apply KeepBut.set_ | apply keep_drewN | apply keep_drew | apply keep_alloc) | exact HK.out)⟩, ⟨by repeat (first | (with_reducible first | exact HB.out | apply below_alloc | apply pw_below_drewN | apply below_drew1 | refine below_set ?_ (IsS84.ge HI0.out)) | exact HB.out)⟩⟩
   ·have c9b0 : decide (0 < x4_1) = false := decide_eq_false c9
    clear c9
    replace H := so3_ H; obtain ⟨rfl, rfl, rfl⟩ := H
    go_wp2
    go_ret
    exact ⟨_, e2_, kr_ HO_3.out, by repeat (first | (with_reducible first | exact HI0.out | apply IsS84.alloc | apply IsS84.drewN | apply IsS84.drew | apply IsS84.set_1 | apply IsS84.set_2) | exact HI0.out), by repeat (first | (with_reducible first | exact HB.out | apply below_alloc | apply pw_below_drewN | apply below_drew1 | refine below_set ?_ (IsS84.ge HI0.out)) | exact HB.out), by repeat (first | (with_reducible first | exact HK.out | apply KeepBut.set_ | apply keep_drewN | apply keep_drew | apply keep_alloc) | exact HK.out)⟩
end Go.Proofs.Ytnlndmoecljicaa.Q
end

section
/- Drawn lists of texts. Plain. -/
namespace Go.Proofs.Ytnlndmoecljicaa.Q
open Go.RowKit Go.Proofs.Ytnlndmoecljicaa.B Go.Proofs.YtnlndmoecljicaaW.PrintWords Go.Proofs.YtnlndmoecljicaaW.PrintMore
set_option linter.unusedVariables false
set_option linter.unusedSimpArgs false

theorem l6List_ev {s : List Int} {i : Int} (h : Int) (hd : Drawer s i) : ∃ l i' h', Ev (fun k => spec_l6List.f k s i h) (l, i', h') ∧ Drawer s i' ∧ l.length ≤ 8 ∧ ∀ x ∈ l, x.size ≤ 3 := by
  obtain ⟨n, i1, h1, e1, hn, d1⟩ := l1Int_ok h ([0, 1, 2, 3, 4, 5, 7, 8, 6] : List Int) hd (by decide) (by decide)
  have main : ∀ (n : Nat) (acc : List ByteArray) (i h : Int), Drawer s i → acc.length + n ≤ 8 → (∀ x ∈ acc, x.size ≤ 3) → ∃ l i' h', Ev (fun k => spec_l6List.l0 k acc (n : Int) s i h) (l, i', h') ∧ Drawer s i' ∧ l.length ≤ 8 ∧ ∀ x ∈ l, x.size ≤ 3 := by
    intro n
    induction n with
    | zero =>
      intro acc i h hd ha hx
      refine ⟨acc, i, h, Ev.step (f := fun _ => some (acc, i, h)) (fun k => ?_) (Ev.now _), hd, by omega, hx⟩
      simp only [spec_l6List.l0]
      rw [if_neg (by omega)]
    | succ n ih =>
      intro acc i h hd ha hx
      obtain ⟨t, i2, h2, e2, hs, d2⟩ := l1Str_ok h ([(⟨#[]⟩ : ByteArray), (⟨#[97]⟩ : ByteArray), (⟨#[98]⟩ : ByteArray), (⟨#[120, 121, 122]⟩ : ByteArray)] : List ByteArray) hd (by simp) (by simp)
      have hss : t.size ≤ 3 := by
        simp only [List.mem_cons, List.not_mem_nil, or_false] at hs
        rcases hs with rfl | rfl | rfl | rfl <;> decide
      obtain ⟨l, i3, h3, e3, d3, hl3, hx3⟩ := ih (acc ++ [t]) i2 h2 d2 (by simp; omega) (fun x hm => by
        rcases List.mem_append.1 hm with hm | hm
        · exact hx x hm
        · rw [List.mem_singleton.1 hm]
          exact hss)
      refine ⟨l, i3, h3, Ev.step (fun k => ?_) e3, d3, hl3, hx3⟩
      simp only [spec_l6List.l0]
      rw [if_pos (by omega), e2]
      simp only [Option.bind_some]
      rw [if_pos (by omega), w64 (x := ((n + 1 : Nat) : Int) - 1) (by omega) (by omega)]
      congr 1
      omega
  have hn2 : 0 ≤ n ∧ n ≤ 8 := by
    simp only [List.mem_cons, List.not_mem_nil, or_false] at hn
    omega
  obtain ⟨l, i2, h2, e2, d2, hl2, hx2⟩ := main n.toNat [] i1 h1 d1 (by simp; omega) (by simp)
  rw [show ((n.toNat : Nat) : Int) = n from by omega] at e2
  refine ⟨l, i2, h2, ?_, d2, hl2, hx2⟩
  unfold spec_l6List.f
  rw [e1]
  exact e2
end Go.Proofs.Ytnlndmoecljicaa.Q
end

section
-- Written by a program of this session (wip/tools/pp.sh) over the print of the kit.
namespace Go.Proofs.Ytnlndmoecljicaa.Q
open Go.RowKit Go.Proofs.YtnlndmoecljicaaW.PrintWords Go.Proofs.YtnlndmoecljicaaW.PrintLast Go.Proofs.YtnlndmoecljicaaW.PrintMore
attribute [local go_sem] max2_int min2_int max_two min_two max_three min_three max_four min_four   -- for this text's walks alone
set_option linter.unusedVariables false
set_option linter.unusedSimpArgs false
def spec_l1Once.f (s0_0 : List Int) (s0_1 : Int) (s0_2 : Int) (a1 : Int) : Option (Bool × Int × Int) := (spec_l1Below.f s0_0 s0_1 s0_2 a1).bind fun bt601 => (some ((bt601.1 == 0), bt601.2.1, bt601.2.2))
set_option maxHeartbeats 8000000 in
set_option maxRecDepth 100000 in
theorem spec_l1Once.calls (g : Nat) (s0_0 : List Int) (s0_1 : Int) (s0_2 : Int) (a1 : Int) (r1 : Bool) (r2 : Int) (r3 : Int) (w0 w : World) (hI : IsS84 w0 w g s0_0 s0_1 s0_2) (hB : Below w0.heap.size w0 w) (h : spec_l1Once.f s0_0 s0_1 s0_2 a1 = some (r1, r2, r3)) :
  Calls Try.prog 55 #[.pointer (some ⟨g, 0, none⟩), .int .i64 a1] w fun e w' => e = .returned (.bool r1) ∧ IsS84 w0 w' g s0_0 r2 r3 ∧ Below w0.heap.size w0 w' ∧ KeepBut w w' g none := by
 have HI0 := Aside0.mk hI
 have HK := Aside0.mk (KeepBut.refl w g none)
 have HL := Aside0.mk hB.size
 clear hI
 have HW0 := Aside0.mk hB.size
 have HB := Aside0.mk hB
 clear hB
 have H : ((spec_l1Below.f s0_0 s0_1 s0_2 a1).bind fun bt601 => (some ((bt601.1 == 0), bt601.2.1, bt601.2.2))) = some (r1, r2, r3) := h
 clear h
 replace H := bi_ H; obtain ⟨⟨t601, t602, t603⟩, A3, H⟩ := H
 dsimp only at H
 replace H := so3_ H; obtain ⟨rfl, rfl, rfl⟩ := H
 go_enter Try.func55, Try.ntmps55
 go_wp2_with (first | ((with_reducible refine gk_ 27 ?_); refine gl_ 7 Try.func27 #[.pointer (some ⟨g, 0, none⟩), .int .i64 a1] ?_; (with_reducible refine (spec_l1Below.calls g s0_0 s0_1 s0_2 a1 t601 t602 t603 w0 _ ?side1 ?side2 A3.out).mono ?_); (case side1 => repeat (first | (with_reducible first | exact HI0.out | apply IsS84.alloc | apply IsS84.drewN | apply IsS84.drew | apply IsS84.set_1 | apply IsS84.set_2) | exact HI0.out)); (case side2 => repeat (first | (with_reducible first | exact HB.out | apply below_alloc | apply pw_below_drewN | apply below_drew1 | refine below_set ?_ (IsS84.ge HI0.out)) | exact HB.out)); rintro e w4 ⟨rfl, hi, hb, hk⟩; refine ⟨_, rfl, ?_⟩; replace HK := Aside0.mk (KeepBut.trans (by repeat (first | (with_reducible first | exact HK.out | apply KeepBut.set_ | apply keep_drewN | apply keep_drew | apply keep_alloc) | exact HK.out)) hk (.inl rfl)); replace HB := Aside0.mk hb; replace HI0 := Aside0.mk hi; clear hb hk hi))
 go_ret
 exact ⟨e2_, by repeat (first | (with_reducible first | exact HI0.out | apply IsS84.alloc | apply IsS84.drewN | apply IsS84.drew | apply IsS84.set_1 | apply IsS84.set_2) | exact HI0.out), by repeat (first | (with_reducible first | exact HB.out | apply below_alloc | apply pw_below_drewN | apply below_drew1 | refine below_set ?_ (IsS84.ge HI0.out)) | exact HB.out), by repeat (first | (with_reducible first | exact HK.out | apply KeepBut.set_ | apply keep_drewN | apply keep_drew | apply keep_alloc) | exact HK.out)⟩
end Go.Proofs.Ytnlndmoecljicaa.Q
end

section
-- Written by a program of this session (wip/tools/pp.sh) over the print of the kit.
namespace Go.Proofs.Ytnlndmoecljicaa.Q
open Go.RowKit Go.Proofs.YtnlndmoecljicaaW.PrintWords Go.Proofs.YtnlndmoecljicaaW.PrintLast Go.Proofs.YtnlndmoecljicaaW.PrintMore
attribute [local go_sem] max2_int min2_int max_two min_two max_three min_three max_four min_four   -- for this text's walks alone
set_option linter.unusedVariables false
set_option linter.unusedSimpArgs false
end Go.Proofs.Ytnlndmoecljicaa.Q
end

section
/- Drawing yes or no. Plain. -/
namespace Go.Proofs.Ytnlndmoecljicaa.Q
open Go.RowKit Go.Proofs.Ytnlndmoecljicaa.B Go.Proofs.YtnlndmoecljicaaW.PrintWords Go.Proofs.YtnlndmoecljicaaW.PrintMore
set_option linter.unusedVariables false
set_option linter.unusedSimpArgs false

theorem l1Once_ok {s : List Int} {i : Int} (h n : Int) (hd : Drawer s i) (hn : 1 ≤ n) (hn2 : n ≤ 4294967296) : ∃ b i' h', spec_l1Once.f s i h n = some (b, i', h') ∧ Drawer s i' := by
  obtain ⟨b, i1, h1, e1, _, _, d1⟩ := l1Below_ok h n hd hn hn2
  unfold spec_l1Once.f
  rw [e1]
  exact ⟨_, _, _, rfl, d1⟩
end Go.Proofs.Ytnlndmoecljicaa.Q
end

section
/- Drawn lists of texts, and tables of heads of their beginnings. Plain. -/
namespace Go.Proofs.Ytnlndmoecljicaa.Q
open Go.RowKit Go.Proofs.Ytnlndmoecljicaa.B Go.Proofs.YtnlndmoecljicaaW.PrintWords Go.Proofs.YtnlndmoecljicaaW.PrintMore
set_option linter.unusedVariables false
set_option linter.unusedSimpArgs false

end Go.Proofs.Ytnlndmoecljicaa.Q
end

section
-- Written by a program of this session (wip/tools/pp.sh) over the print of the kit.
namespace Go.Proofs.Ytnlndmoecljicaa.Q
open Go.RowKit Go.Proofs.YtnlndmoecljicaaW.PrintWords Go.Proofs.YtnlndmoecljicaaW.PrintLast Go.Proofs.YtnlndmoecljicaaW.PrintMore
attribute [local go_sem] max2_int min2_int max_two min_two max_three min_three max_four min_four   -- for this text's walks alone
set_option linter.unusedVariables false
set_option linter.unusedSimpArgs false
def spec_l13Draw.f (k : Nat) (s0_0 : List Int) (s0_1 : Int) (s0_2 : Int) : Option (Int × Int × Int × Int × ByteArray × Int × List ByteArray × Int × Int) := (spec_l6List.f k s0_0 s0_1 s0_2).bind fun bt602 => (if bt602.1.length < 8796093022208 then ((some (bt602.1 ++ [(⟨#[113]⟩ : ByteArray)] : List ByteArray)).bind fun y607 => ((spec_l1Below.f s0_0 bt602.2.1 bt602.2.2 3).bind fun bt610 => ((spec_l1Below.f s0_0 bt610.2.1 bt610.2.2 4).bind fun bt613 => ((spec_l1Below.f s0_0 bt613.2.1 bt613.2.2 2).bind fun bt616 => ((spec_HeadOf.f k y607).bind fun bt619 => (if (wrap64 (1 + bt610.1)) = 1 then (if (wrap64 (1 + bt610.1)) = 3 then (if 0 ≤ (y607.length : Int) then ((some (y607.drop 0 : List ByteArray)).bind fun y622 => (if ([] : List ByteArray).length + y622.length < 8796093022208 then (some (wrap64 (1 + bt610.1), bt613.1, wrap64 (4 + bt616.1), bt619.1, bt619.2, 0, (([] : List ByteArray) ++ y622), bt616.2.1, bt616.2.2)) else (none))) else (none)) else (some (wrap64 (1 + bt610.1), bt613.1, wrap64 (4 + bt616.1), bt619.1, bt619.2, 0, ([] : List ByteArray), bt616.2.1, bt616.2.2))) else ((spec_l1Below.f s0_0 bt616.2.1 bt616.2.2 (y607.length : Int)).bind fun bt629 => (if (wrap64 (1 + bt610.1)) = 3 then (if 0 ≤ bt629.1 then (if bt629.1 ≤ (y607.length : Int) then ((some (y607.drop (bt629.1 : Int).toNat : List ByteArray)).bind fun y632 => (if ([] : List ByteArray).length + y632.length < 8796093022208 then (some (wrap64 (1 + bt610.1), bt613.1, wrap64 (4 + bt616.1), bt619.1, bt619.2, bt629.1, (([] : List ByteArray) ++ y632), bt629.2.1, bt629.2.2)) else (none))) else (none)) else (none)) else (some (wrap64 (1 + bt610.1), bt613.1, wrap64 (4 + bt616.1), bt619.1, bt619.2, bt629.1, ([] : List ByteArray), bt629.2.1, bt629.2.2)))))))))) else (none))
def spec_l13Draw.T6 : Bool × List (List Nat × List Nat) := (true, [([], []), ([0], [0]), ([], []), ([], []), ([3], [3]), ([2, 4], [2, 4]), ([1, 5], [1, 5]), ([0, 1, 2, 3, 4, 5, 6], []), ([7, 6, 6, 0, 1, 2, 3, 4, 5, 6], [6, 7])])
def spec_l13Draw.B6 : List Nat := [0, 1, 0, 0, 8, 28, 63, 127, 255]
theorem spec_l13Draw.tab6 : rtab .any (opsOf Try.f26 6) = spec_l13Draw.T6 := by kernel_rfl
theorem spec_l13Draw.bits6 : waitsOk spec_l13Draw.T6.2 spec_l13Draw.B6 = true := by kernel_rfl
set_option maxHeartbeats 8000000 in
set_option maxRecDepth 100000 in
theorem spec_l13Draw.calls (k : Nat) (g : Nat) (s0_0 : List Int) (s0_1 : Int) (s0_2 : Int) (r1 : Int) (r2 : Int) (r3 : Int) (r4 : Int) (r5 : ByteArray) (r6 : Int) (r7 : List ByteArray) (r8 : Int) (r9 : Int) (w0 w : World) (hI : IsS84 w0 w g s0_0 s0_1 s0_2) (hB : Below w0.heap.size w0 w) (h : spec_l13Draw.f k s0_0 s0_1 s0_2 = some (r1, r2, r3, r4, r5, r6, r7, r8, r9)) :
  Calls Try.prog 26 #[.pointer (some ⟨g, 0, none⟩)] w fun e w' => ∃ v6_ : Value, e = .returned (.agg #[.int .i64 r1, .int .i64 r2, .int .i64 r3, .int .i64 r4, .string r5, .int .i64 r6, v6_]) ∧ Kd.R Kd.string 9 w' w.heap.size (fun _ => True) v6_ r7 ∧ IsS84 w0 w' g s0_0 r8 r9 ∧ Below w0.heap.size w0 w' ∧ KeepBut w w' g none := by
 have hu28 := Try.underlying28
 have HI0 := Aside0.mk hI
 have HK := Aside0.mk (KeepBut.refl w g none)
 have HL := Aside0.mk hB.size
 clear hI
 have HW0 := Aside0.mk hB.size
 have HB := Aside0.mk hB
 clear hB
 have H : ((spec_l6List.f k s0_0 s0_1 s0_2).bind fun bt602 => (if bt602.1.length < 8796093022208 then ((some (bt602.1 ++ [(⟨#[113]⟩ : ByteArray)] : List ByteArray)).bind fun y607 => ((spec_l1Below.f s0_0 bt602.2.1 bt602.2.2 3).bind fun bt610 => ((spec_l1Below.f s0_0 bt610.2.1 bt610.2.2 4).bind fun bt613 => ((spec_l1Below.f s0_0 bt613.2.1 bt613.2.2 2).bind fun bt616 => ((spec_HeadOf.f k y607).bind fun bt619 => (if (wrap64 (1 + bt610.1)) = 1 then (if (wrap64 (1 + bt610.1)) = 3 then (if 0 ≤ (y607.length : Int) then ((some (y607.drop 0 : List ByteArray)).bind fun y622 => (if ([] : List ByteArray).length + y622.length < 8796093022208 then (some (wrap64 (1 + bt610.1), bt613.1, wrap64 (4 + bt616.1), bt619.1, bt619.2, 0, (([] : List ByteArray) ++ y622), bt616.2.1, bt616.2.2)) else (none))) else (none)) else (some (wrap64 (1 + bt610.1), bt613.1, wrap64 (4 + bt616.1), bt619.1, bt619.2, 0, ([] : List ByteArray), bt616.2.1, bt616.2.2))) else ((spec_l1Below.f s0_0 bt616.2.1 bt616.2.2 (y607.length : Int)).bind fun bt629 => (if (wrap64 (1 + bt610.1)) = 3 then (if 0 ≤ bt629.1 then (if bt629.1 ≤ (y607.length : Int) then ((some (y607.drop (bt629.1 : Int).toNat : List ByteArray)).bind fun y632 => (if ([] : List ByteArray).length + y632.length < 8796093022208 then (some (wrap64 (1 + bt610.1), bt613.1, wrap64 (4 + bt616.1), bt619.1, bt619.2, bt629.1, (([] : List ByteArray) ++ y632), bt629.2.1, bt629.2.2)) else (none))) else (none)) else (none)) else (some (wrap64 (1 + bt610.1), bt613.1, wrap64 (4 + bt616.1), bt619.1, bt619.2, bt629.1, ([] : List ByteArray), bt629.2.1, bt629.2.2)))))))))) else (none))) = some (r1, r2, r3, r4, r5, r6, r7, r8, r9) := h
 clear h
 replace H := bi_ H; obtain ⟨⟨t602, t605, t606⟩, A2, H⟩ := H
 dsimp only at H
 replace H := ip_ H; obtain ⟨c3, H⟩ := H
 have LMc3 := Aside0.mk c3
 clear c3
 obtain ⟨y607, Ny607, H⟩ := sb_ (t602 ++ [(⟨#[113]⟩ : ByteArray)]) H
 replace H := bi_ H; obtain ⟨⟨t610, t611, t612⟩, A4, H⟩ := H
 dsimp only at H
 replace H := bi_ H; obtain ⟨⟨t613, t614, t615⟩, A5, H⟩ := H
 dsimp only at H
 replace H := bi_ H; obtain ⟨⟨t616, t617, t618⟩, A6, H⟩ := H
 dsimp only at H
 replace H := bi_ H; obtain ⟨⟨t619, t620⟩, A7, H⟩ := H
 dsimp only at H
 replace H := it_ H; obtain ⟨c8, H⟩ | ⟨c8, H⟩ := H
 ·have c8b0 : ((wrap64 (1 + t610)) == 1) = true := beq_iff_eq.mpr c8
  have c8b1 : ((wrap64 (1 + t610)) != 1) = false := bne_eq_false_iff_eq.mpr c8
  clear c8
  replace H := it_ H; obtain ⟨c9, H⟩ | ⟨c9, H⟩ := H
  ·have c9b0 : ((wrap64 (1 + t610)) == 3) = true := beq_iff_eq.mpr c9
   have c9b1 : ((wrap64 (1 + t610)) != 3) = false := bne_eq_false_iff_eq.mpr c9
   clear c9
   replace H := ip_ H; obtain ⟨c10, H⟩ := H
   have c10b0 := eq_true c10
   have c10b1 := decide_eq_true c10
   clear c10
   obtain ⟨y622, Ny622, H⟩ := sb_ (y607.drop 0) H
   replace H := ip_ H; obtain ⟨c11, H⟩ := H
   have LMc11 := Aside0.mk c11
   clear c11
   obtain ⟨y626, hy626⟩ : ∃ y_ : List ByteArray, y_ = (([] : List ByteArray) ++ y622) := ⟨_, rfl⟩
   replace H : (some (wrap64 (1 + t610), t613, wrap64 (4 + t616), t619, t620, 0, y626, t617, t618)) = some (r1, r2, r3, r4, r5, r6, r7, r8, r9) := yh_ hy626 H
   have Ny626 := Aside0.mk hy626
   clear hy626
   simp only [Option.some.injEq, Prod.mk.injEq] at H
   obtain ⟨rfl, rfl, rfl, rfl, rfl, rfl, rfl, rfl, rfl⟩ := H
   go_enter Try.func26, Try.ntmps26
   try go_wp2_with (first | ((with_reducible refine gd_ 2 ?_); refine bx_ 2 28 #[.int .i64 0, .int .i64 0, .int .i64 0, .int .i64 0, .string (⟨#[]⟩ : ByteArray), .int .i64 0, .slice none 0 0] ?_; intro gb601 hg w12 hbox hb; replace HB := Aside0.mk (below_step (bs1_ HB (IsS84.ge HI0.out)) hb); have BK601 := Aside0.mk hbox; have GW601 := Aside0.mk ((by rw [hg]; exact (keep_size (w := w) (g := g) (row := none) (by repeat (first | (with_reducible first | exact HK.out | apply KeepBut.set_ | apply keep_drewN | apply keep_drew | apply keep_alloc) | exact HK.out))) : w.heap.size ≤ gb601)); have GE601 := Aside0.mk ((Nat.le_trans HW0.out (by rw [hg]; exact (keep_size (w := w) (g := g) (row := none) (by repeat (first | (with_reducible first | exact HK.out | apply KeepBut.set_ | apply keep_drewN | apply keep_drew | apply keep_alloc) | exact HK.out))) : w.heap.size ≤ gb601) : w0.heap.size ≤ gb601)); replace HK := Aside0.mk (KeepBut.trans (by repeat (first | (with_reducible first | exact HK.out | apply KeepBut.set_ | apply keep_drewN | apply keep_drew | apply keep_alloc) | exact HK.out)) (KeepBut.of_below hb g none) (.inl rfl)); have NB0_601 := Aside0.mk ((by rw [hg]; exact Nat.ne_of_lt (IsS84.lt (show IsS84 w0 _ g s0_0 s0_1 s0_2 from by repeat (first | (with_reducible first | exact HI0.out | apply IsS84.alloc | apply IsS84.drewN | apply IsS84.drew | apply IsS84.set_1 | apply IsS84.set_2) | exact HI0.out))) : g ≠ gb601)); have NB601_0 := Aside0.mk ((by rw [hg]; exact Nat.ne_of_gt (IsS84.lt (show IsS84 w0 _ g s0_0 s0_1 s0_2 from by repeat (first | (with_reducible first | exact HI0.out | apply IsS84.alloc | apply IsS84.drewN | apply IsS84.drew | apply IsS84.set_1 | apply IsS84.set_2) | exact HI0.out))) : gb601 ≠ g)); replace HI0 := Aside0.mk (IsS84.below (by repeat (first | (with_reducible first | exact HI0.out | apply IsS84.alloc | apply IsS84.drewN | apply IsS84.drew | apply IsS84.set_1 | apply IsS84.set_2) | exact HI0.out)) hb); clear hb hbox hg) | ((with_reducible refine gk_ 60 ?_); refine gl_ 6 Try.func60 #[.pointer (some ⟨g, 0, none⟩)] ?_; (with_reducible refine (spec_l6List.calls k g s0_0 s0_1 s0_2 t602 t605 t606 w0 _ ?side1 ?side2 A2.out).mono ?_); (case side1 => repeat (first | (with_reducible first | exact HI0.out | apply IsS84.alloc | apply IsS84.drewN | apply IsS84.drew | apply IsS84.set_1 | apply IsS84.set_2 | refine IsS84.far ?_ NB0_601.out _) | exact HI0.out)); (case side2 => repeat (first | (with_reducible first | exact HB.out | apply below_alloc | apply pw_below_drewN | apply below_drew1 | refine below_set ?_ (IsS84.ge HI0.out) | refine below_set ?_ GE601.out) | exact HB.out)); rintro e w13 ⟨v603, rfl, ho0, hi, hb, hk⟩; refine ⟨_, rfl, ?_⟩; replace BK601 := Aside0.mk (KeepBut.blk hk (g' := gb601) (o := .cells #[.int .i64 0, .int .i64 0, .int .i64 0, .int .i64 0, .string (⟨#[]⟩ : ByteArray), .int .i64 0, .slice none 0 0] 28 (0, 0)) (kb_ BK601.out) NB601_0.out (by simp)); have HO604 := Aside0.mk (Kd.R_lower ho0 (keep_size (w := w) (g := g) (row := none) (by repeat (first | (with_reducible first | exact HK.out | apply KeepBut.set_ | apply keep_drewN | apply keep_drew | apply keep_alloc | refine keep_far ?_ GW601.out _) | exact HK.out)))); replace HK := Aside0.mk (KeepBut.trans (by repeat (first | (with_reducible first | exact HK.out | apply KeepBut.set_ | apply keep_drewN | apply keep_drew | apply keep_alloc | refine keep_far ?_ GW601.out _) | exact HK.out)) hk (.inl rfl)); replace HB := Aside0.mk hb; replace HI0 := Aside0.mk hi; clear hb hk hi ho0) | ((with_reducible refine gate_builtin (b := .append) (xs := #[.tmp 6, .tmp 7]) rfl ?_); at_builtin; refine Kd.R_append Kd.string w.heap.size rfl (.tmp 6) (.tmp 7) 26 9 (.string ⟨#[]⟩) 16 rfl Try.underlying26 info9 rfl (by decide) (by omega) v603 t602 (⟨#[113]⟩ : ByteArray) [.string (⟨#[113]⟩ : ByteArray)] (fun _ => True) (fun _ => False) rfl rfl ?aP (fun _ hk => hk.elim) ?aF ?aO (Below.refl _ _) ?aS ?aL ?_; (case aP => exact rfl); (case aF => exact (fun _ _ => trivial)); (case aO => exact (kr_ HO604.out)); (case aS => exact (keep_size (w := w) (g := g) (row := none) (by repeat (first | (with_reducible first | exact HK.out | apply KeepBut.set_ | apply keep_drewN | apply keep_drew | apply keep_alloc | refine keep_far ?_ GW601.out _) | exact HK.out)))); (case aL => have := LMc3.out; omega); intro v608 w14 ho hb hg hat; rw [← Ny607.out] at ho; replace BK601 := kg_ BK601 HO604 hg; replace HB := Aside0.mk (below_weaken (bs2_ HB (IsS84.ge HI0.out) GE601.out) HL.out hb); replace HI0 := Aside0.mk (IsS84.grown (by repeat (first | (with_reducible first | exact HI0.out | apply IsS84.alloc | apply IsS84.drewN | apply IsS84.drew | apply IsS84.set_1 | apply IsS84.set_2 | refine IsS84.far ?_ NB0_601.out _) | exact HI0.out)) hg (IsS84.own_ne HI0.out HO604.out (by decide))); replace HK := Aside0.mk (KeepBut.trans (by repeat (first | (with_reducible first | exact HK.out | apply KeepBut.set_ | apply keep_drewN | apply keep_drew | apply keep_alloc | refine keep_far ?_ GW601.out _) | exact HK.out)) (KeepBut.of_grown hg g) (Kd.R_base2 HO604.out)); have HO609 := Aside0.mk ho; clear HO604; clear ho hb hg hat) | ((with_reducible refine gk_ 27 ?_); refine gl_ 10 Try.func27 #[.pointer (some ⟨g, 0, none⟩), .int .i64 3] ?_; (with_reducible refine (spec_l1Below.calls g s0_0 t605 t606 3 t610 t611 t612 w0 _ ?side1 ?side2 A4.out).mono ?_); (case side1 => repeat (first | (with_reducible first | exact HI0.out | apply IsS84.alloc | apply IsS84.drewN | apply IsS84.drew | apply IsS84.set_1 | apply IsS84.set_2 | refine IsS84.far ?_ NB0_601.out _) | exact HI0.out)); (case side2 => repeat (first | (with_reducible first | exact HB.out | apply below_alloc | apply pw_below_drewN | apply below_drew1 | refine below_set ?_ (IsS84.ge HI0.out) | refine below_set ?_ GE601.out) | exact HB.out)); rintro e w15 ⟨rfl, hi, hb, hk⟩; refine ⟨_, rfl, ?_⟩; replace BK601 := Aside0.mk (KeepBut.blk hk (g' := gb601) (o := .cells #[.int .i64 0, .int .i64 0, .int .i64 0, .int .i64 0, .string (⟨#[]⟩ : ByteArray), .int .i64 0, .slice none 0 0] 28 (0, 0)) (kb_ BK601.out) NB601_0.out (by simp)); replace HO609 := Aside0.mk (Kd.R_mono (Kd.R_keep (IsS84.apart (show IsS84 w0 _ g s0_0 t605 t606 from by repeat (first | (with_reducible first | exact HI0.out | apply IsS84.alloc | apply IsS84.drewN | apply IsS84.drew | apply IsS84.set_1 | apply IsS84.set_2 | refine IsS84.far ?_ NB0_601.out _) | exact HI0.out)) (kr_ HO609.out) (by decide)) hk (fun _ h => h.2)) (fun _ h => h.1)); replace HK := Aside0.mk (KeepBut.trans (by repeat (first | (with_reducible first | exact HK.out | apply KeepBut.set_ | apply keep_drewN | apply keep_drew | apply keep_alloc | refine keep_far ?_ GW601.out _) | exact HK.out)) hk (.inl rfl)); replace HB := Aside0.mk hb; replace HI0 := Aside0.mk hi; clear hb hk hi) | ((with_reducible refine gk_ 27 ?_); refine gl_ 13 Try.func27 #[.pointer (some ⟨g, 0, none⟩), .int .i64 4] ?_; (with_reducible refine (spec_l1Below.calls g s0_0 t611 t612 4 t613 t614 t615 w0 _ ?side1 ?side2 A5.out).mono ?_); (case side1 => repeat (first | (with_reducible first | exact HI0.out | apply IsS84.alloc | apply IsS84.drewN | apply IsS84.drew | apply IsS84.set_1 | apply IsS84.set_2 | refine IsS84.far ?_ NB0_601.out _) | exact HI0.out)); (case side2 => repeat (first | (with_reducible first | exact HB.out | apply below_alloc | apply pw_below_drewN | apply below_drew1 | refine below_set ?_ (IsS84.ge HI0.out) | refine below_set ?_ GE601.out) | exact HB.out)); rintro e w16 ⟨rfl, hi, hb, hk⟩; refine ⟨_, rfl, ?_⟩; replace BK601 := Aside0.mk (KeepBut.blk hk (g' := gb601) (o := .cells #[.int .i64 0, .int .i64 0, .int .i64 0, .int .i64 0, .string (⟨#[]⟩ : ByteArray), .int .i64 0, .slice none 0 0] 28 (0, 0)) (kb_ BK601.out) NB601_0.out (by simp)); replace HO609 := Aside0.mk (Kd.R_mono (Kd.R_keep (IsS84.apart (show IsS84 w0 _ g s0_0 t611 t612 from by repeat (first | (with_reducible first | exact HI0.out | apply IsS84.alloc | apply IsS84.drewN | apply IsS84.drew | apply IsS84.set_1 | apply IsS84.set_2 | refine IsS84.far ?_ NB0_601.out _) | exact HI0.out)) (kr_ HO609.out) (by decide)) hk (fun _ h => h.2)) (fun _ h => h.1)); replace HK := Aside0.mk (KeepBut.trans (by repeat (first | (with_reducible first | exact HK.out | apply KeepBut.set_ | apply keep_drewN | apply keep_drew | apply keep_alloc | refine keep_far ?_ GW601.out _) | exact HK.out)) hk (.inl rfl)); replace HB := Aside0.mk hb; replace HI0 := Aside0.mk hi; clear hb hk hi) | ((with_reducible refine gk_ 27 ?_); refine gl_ 15 Try.func27 #[.pointer (some ⟨g, 0, none⟩), .int .i64 2] ?_; (with_reducible refine (spec_l1Below.calls g s0_0 t614 t615 2 t616 t617 t618 w0 _ ?side1 ?side2 A6.out).mono ?_); (case side1 => repeat (first | (with_reducible first | exact HI0.out | apply IsS84.alloc | apply IsS84.drewN | apply IsS84.drew | apply IsS84.set_1 | apply IsS84.set_2 | refine IsS84.far ?_ NB0_601.out _) | exact HI0.out)); (case side2 => repeat (first | (with_reducible first | exact HB.out | apply below_alloc | apply pw_below_drewN | apply below_drew1 | refine below_set ?_ (IsS84.ge HI0.out) | refine below_set ?_ GE601.out) | exact HB.out)); rintro e w17 ⟨rfl, hi, hb, hk⟩; refine ⟨_, rfl, ?_⟩; replace BK601 := Aside0.mk (KeepBut.blk hk (g' := gb601) (o := .cells #[.int .i64 0, .int .i64 0, .int .i64 0, .int .i64 0, .string (⟨#[]⟩ : ByteArray), .int .i64 0, .slice none 0 0] 28 (0, 0)) (kb_ BK601.out) NB601_0.out (by simp)); replace HO609 := Aside0.mk (Kd.R_mono (Kd.R_keep (IsS84.apart (show IsS84 w0 _ g s0_0 t614 t615 from by repeat (first | (with_reducible first | exact HI0.out | apply IsS84.alloc | apply IsS84.drewN | apply IsS84.drew | apply IsS84.set_1 | apply IsS84.set_2 | refine IsS84.far ?_ NB0_601.out _) | exact HI0.out)) (kr_ HO609.out) (by decide)) hk (fun _ h => h.2)) (fun _ h => h.1)); replace HK := Aside0.mk (KeepBut.trans (by repeat (first | (with_reducible first | exact HK.out | apply KeepBut.set_ | apply keep_drewN | apply keep_drew | apply keep_alloc | refine keep_far ?_ GW601.out _) | exact HK.out)) hk (.inl rfl)); replace HB := Aside0.mk hb; replace HI0 := Aside0.mk hi; clear hb hk hi; obtain ⟨Ao18, co18, eo18⟩ := Kd.R_slice HO609.out; subst eo18) | ((with_reducible refine gq_ 42 18 ?_); refine gc_ 18 Try.func42 (spec_HeadOf.calls k _ _ y607 t619 t620 _ (ch_ HO609) (cl_ HO609) A7.out) ?_; rintro e w19 ⟨rfl, hb⟩; refine ⟨_, rfl, ?_⟩; replace HO609 := rb_ HO609 hb; replace BK601 := kl_ BK601 hb; replace HK := Aside0.mk (KeepBut.trans (by repeat (first | (with_reducible first | exact HK.out | apply KeepBut.set_ | apply keep_drewN | apply keep_drew | apply keep_alloc | refine keep_far ?_ GW601.out _) | exact HK.out)) (KeepBut.of_below hb g none) (.inl rfl)); replace HB := Aside0.mk (below_step (bs2_ HB (IsS84.ge HI0.out) GE601.out) hb); replace HI0 := Aside0.mk (IsS84.below (by repeat (first | (with_reducible first | exact HI0.out | apply IsS84.alloc | apply IsS84.drewN | apply IsS84.drew | apply IsS84.set_1 | apply IsS84.set_2 | refine IsS84.far ?_ NB0_601.out _) | exact HI0.out)) hb); clear hb) | ((with_reducible refine gd_ 4 ?_); refine bx_ 4 28 #[.int .i64 0, .int .i64 0, .int .i64 0, .int .i64 0, .string (⟨#[]⟩ : ByteArray), .int .i64 0, .slice none 0 0] ?_; intro gb621 hg w20 hbox hb; replace HO609 := rb_ HO609 hb; replace HB := Aside0.mk (below_step (bs2_ HB (IsS84.ge HI0.out) GE601.out) hb); have BK621 := Aside0.mk hbox; have GW621 := Aside0.mk ((by rw [hg]; exact (keep_size (w := w) (g := g) (row := none) (by repeat (first | (with_reducible first | exact HK.out | apply KeepBut.set_ | apply keep_drewN | apply keep_drew | apply keep_alloc | refine keep_far ?_ GW601.out _) | exact HK.out))) : w.heap.size ≤ gb621)); have GE621 := Aside0.mk ((Nat.le_trans HW0.out (by rw [hg]; exact (keep_size (w := w) (g := g) (row := none) (by repeat (first | (with_reducible first | exact HK.out | apply KeepBut.set_ | apply keep_drewN | apply keep_drew | apply keep_alloc | refine keep_far ?_ GW601.out _) | exact HK.out))) : w.heap.size ≤ gb621) : w0.heap.size ≤ gb621)); replace HK := Aside0.mk (KeepBut.trans (by repeat (first | (with_reducible first | exact HK.out | apply KeepBut.set_ | apply keep_drewN | apply keep_drew | apply keep_alloc | refine keep_far ?_ GW601.out _) | exact HK.out)) (KeepBut.of_below hb g none) (.inl rfl)); have NB601_621 := Aside0.mk ((by rw [hg]; exact Nat.ne_of_lt (blk_lt (kb_ BK601.out)) : gb601 ≠ gb621)); have NB621_601 := Aside0.mk ((by rw [hg]; exact Nat.ne_of_gt (blk_lt (kb_ BK601.out)) : gb621 ≠ gb601)); replace BK601 := kl_ BK601 hb; have NB0_621 := Aside0.mk ((by rw [hg]; exact Nat.ne_of_lt (IsS84.lt (show IsS84 w0 _ g s0_0 t617 t618 from by repeat (first | (with_reducible first | exact HI0.out | apply IsS84.alloc | apply IsS84.drewN | apply IsS84.drew | apply IsS84.set_1 | apply IsS84.set_2 | refine IsS84.far ?_ NB0_601.out _) | exact HI0.out))) : g ≠ gb621)); have NB621_0 := Aside0.mk ((by rw [hg]; exact Nat.ne_of_gt (IsS84.lt (show IsS84 w0 _ g s0_0 t617 t618 from by repeat (first | (with_reducible first | exact HI0.out | apply IsS84.alloc | apply IsS84.drewN | apply IsS84.drew | apply IsS84.set_1 | apply IsS84.set_2 | refine IsS84.far ?_ NB0_601.out _) | exact HI0.out))) : gb621 ≠ g)); replace HI0 := Aside0.mk (IsS84.below (by repeat (first | (with_reducible first | exact HI0.out | apply IsS84.alloc | apply IsS84.drewN | apply IsS84.drew | apply IsS84.set_1 | apply IsS84.set_2 | refine IsS84.far ?_ NB0_601.out _) | exact HI0.out)) hb); clear hb hbox hg; have hnb21 := NB621_601.out; have hnc21 := NB601_621.out; have hnb22 := NB621_0.out; have hnc22 := NB0_621.out; have hcz23_0 := bc0_ BK621.out; have hcz23_1 := bc1_ BK621.out; have hcz23_2 := bc2_ BK621.out; have hcz23_3 := bc3_ BK621.out; have hcz23_4 := bc4_ BK621.out; have hcz23_5 := bc5_ BK621.out; have hcz23_6 := bc6_ BK621.out; have hfz23_0 := blk_frozen BK621.out 0; have hfz23_1 := blk_frozen BK621.out 1; have hfz23_2 := blk_frozen BK621.out 2; have hfz23_3 := blk_frozen BK621.out 3; have hfz23_4 := blk_frozen BK621.out 4; have hfz23_5 := blk_frozen BK621.out 5; have hfz23_6 := blk_frozen BK621.out 6))
   have n0_ : Aside0 (Kd.R Kd.string 9 (((((((w20.setCell ⟨gb621, 0, none⟩ (.int .i64 (wrap64 (1 + t610)))).setCell ⟨gb621, 1, none⟩ (.int .i64 t613)).setCell ⟨gb621, 2, none⟩ (.int .i64 (wrap64 (4 + t616)))).setCell ⟨gb621, 3, none⟩ (.int .i64 t619)).setCell ⟨gb621, 4, none⟩ (.string t620)).setCell ⟨gb621, 5, none⟩ (.int .i64 0)).setCell ⟨gb621, 6, none⟩ (.slice none 0 0)) w.heap.size (fun _ => True) (.slice Ao18 y607.length co18) y607) := ⟨by (with_reducible repeat (first | apply Kd.R_alloc | apply Kd.R_drewN | apply Kd.R_drew)); exact Kd.R_mono (Kd.R_far (p := ⟨gb621, 6, none⟩) (Kd.R_far (p := ⟨gb621, 5, none⟩) (Kd.R_far (p := ⟨gb621, 4, none⟩) (Kd.R_far (p := ⟨gb621, 3, none⟩) (Kd.R_far (p := ⟨gb621, 2, none⟩) (Kd.R_far (p := ⟨gb621, 1, none⟩) (Kd.R_far (p := ⟨gb621, 0, none⟩) (Kd.R_types HO609.out BK621.out (by decide)) (fun _ hk => hk.2) (.int .i64 (wrap64 (1 + t610)))) (fun _ hk => hk.2) (.int .i64 t613)) (fun _ hk => hk.2) (.int .i64 (wrap64 (4 + t616)))) (fun _ hk => hk.2) (.int .i64 t619)) (fun _ hk => hk.2) (.string t620)) (fun _ hk => hk.2) (.int .i64 0)) (fun _ hk => hk.2) (.slice none 0 0)) (fun _ hk => trivial)⟩
   have n1_ : Aside0 ((((((((w20.setCell ⟨gb621, 0, none⟩ (.int .i64 (wrap64 (1 + t610)))).setCell ⟨gb621, 1, none⟩ (.int .i64 t613)).setCell ⟨gb621, 2, none⟩ (.int .i64 (wrap64 (4 + t616)))).setCell ⟨gb621, 3, none⟩ (.int .i64 t619)).setCell ⟨gb621, 4, none⟩ (.string t620)).setCell ⟨gb621, 5, none⟩ (.int .i64 0)).setCell ⟨gb621, 6, none⟩ (.slice none 0 0)).heap[gb601]? = some (.cells #[.int .i64 0, .int .i64 0, .int .i64 0, .int .i64 0, .string (⟨#[]⟩ : ByteArray), .int .i64 0, .slice none 0 0] 28 (0, 0))) := ⟨kq_ BK601⟩
   have n2_ : Aside0 ((((((((w20.setCell ⟨gb621, 0, none⟩ (.int .i64 (wrap64 (1 + t610)))).setCell ⟨gb621, 1, none⟩ (.int .i64 t613)).setCell ⟨gb621, 2, none⟩ (.int .i64 (wrap64 (4 + t616)))).setCell ⟨gb621, 3, none⟩ (.int .i64 t619)).setCell ⟨gb621, 4, none⟩ (.string t620)).setCell ⟨gb621, 5, none⟩ (.int .i64 0)).setCell ⟨gb621, 6, none⟩ (.slice none 0 0)).heap[gb621]? = some (.cells #[.int .i64 (wrap64 (1 + t610)), .int .i64 t613, .int .i64 (wrap64 (4 + t616)), .int .i64 t619, .string t620, .int .i64 0, .slice none 0 0] 28 (0, 0))) := ⟨kq_ BK621⟩
   have n3_ : Aside0 (IsS84 w0 (((((((w20.setCell ⟨gb621, 0, none⟩ (.int .i64 (wrap64 (1 + t610)))).setCell ⟨gb621, 1, none⟩ (.int .i64 t613)).setCell ⟨gb621, 2, none⟩ (.int .i64 (wrap64 (4 + t616)))).setCell ⟨gb621, 3, none⟩ (.int .i64 t619)).setCell ⟨gb621, 4, none⟩ (.string t620)).setCell ⟨gb621, 5, none⟩ (.int .i64 0)).setCell ⟨gb621, 6, none⟩ (.slice none 0 0)) g s0_0 t617 t618) := ⟨by repeat (first | (with_reducible first | exact HI0.out | apply IsS84.alloc | apply IsS84.drewN | apply IsS84.drew | apply IsS84.set_1 | apply IsS84.set_2 | refine IsS84.far ?_ NB0_601.out _ | refine IsS84.far ?_ NB0_621.out _) | exact HI0.out)⟩
   have n4_ : Aside0 (KeepBut w (((((((w20.setCell ⟨gb621, 0, none⟩ (.int .i64 (wrap64 (1 + t610)))).setCell ⟨gb621, 1, none⟩ (.int .i64 t613)).setCell ⟨gb621, 2, none⟩ (.int .i64 (wrap64 (4 + t616)))).setCell ⟨gb621, 3, none⟩ (.int .i64 t619)).setCell ⟨gb621, 4, none⟩ (.string t620)).setCell ⟨gb621, 5, none⟩ (.int .i64 0)).setCell ⟨gb621, 6, none⟩ (.slice none 0 0)) g none) := ⟨by repeat (first | (with_reducible first | exact HK.out | apply KeepBut.set_ | apply keep_drewN | apply keep_drew | apply keep_alloc | refine keep_far ?_ GW601.out _ | refine keep_far ?_ GW621.out _) | exact HK.out)⟩
   have n5_ : Aside0 (Below w0.heap.size w0 (((((((w20.setCell ⟨gb621, 0, none⟩ (.int .i64 (wrap64 (1 + t610)))).setCell ⟨gb621, 1, none⟩ (.int .i64 t613)).setCell ⟨gb621, 2, none⟩ (.int .i64 (wrap64 (4 + t616)))).setCell ⟨gb621, 3, none⟩ (.int .i64 t619)).setCell ⟨gb621, 4, none⟩ (.string t620)).setCell ⟨gb621, 5, none⟩ (.int .i64 0)).setCell ⟨gb621, 6, none⟩ (.slice none 0 0))) := ⟨by repeat (first | (with_reducible first | exact HB.out | apply below_alloc | apply pw_below_drewN | apply below_drew1 | refine below_set ?_ (IsS84.ge HI0.out) | refine below_set ?_ GE601.out | refine below_set ?_ GE621.out) | exact HB.out)⟩
   generalize (((((((w20.setCell ⟨gb621, 0, none⟩ (.int .i64 (wrap64 (1 + t610)))).setCell ⟨gb621, 1, none⟩ (.int .i64 t613)).setCell ⟨gb621, 2, none⟩ (.int .i64 (wrap64 (4 + t616)))).setCell ⟨gb621, 3, none⟩ (.int .i64 t619)).setCell ⟨gb621, 4, none⟩ (.string t620)).setCell ⟨gb621, 5, none⟩ (.int .i64 0)).setCell ⟨gb621, 6, none⟩ (.slice none 0 0)) = w24 at n0_ n1_ n2_ n3_ n4_ n5_ ⊢
   have HO609 := n0_
   have BK601 := n1_
   have BK621 := n2_
   have HI0 := n3_
   have HK := n4_
   have HB := n5_
   clear n0_ n1_ n2_ n3_ n4_ n5_
   replace HO609 := Aside0.mk (Kd.R_drew HO609.out)
   replace BK601 := Aside0.mk (blk_drew BK601.out)
   replace BK621 := Aside0.mk (blk_drew BK621.out)
   replace HI0 := Aside0.mk (IsS84.drew HI0.out)
   replace HK := Aside0.mk (keep_drew HK.out)
   replace HB := Aside0.mk (below_drew1 HB.out)
   have q26 : (0 : Int) ≤ ((y607.length : Int) : Int) := of_decide_eq_true as_
   obtain ⟨i026, hi026, _, hsz26, _⟩ := info_parts info9
   have hroom26 : y607.length ≤ co18 := (cl_ HO609)
   have hC26 : Kd.C Kd.string _ Ao18 y607.length y607 := (Kd.R_reads' HO609.out).2.2
   have hcut26 := cut_from (P := Try.prog) 26 9 .i64 Try.underlying26 hi026 1 hsz26 Ao18 y607.length co18 0 (by omega) q26
   have hr26 := Kd.C_drop (m := (0 : Int).toNat) (c := co18) hC26 (by omega) hroom26
   obtain ⟨A26, hA26⟩ : ∃ A1, A1 = (if co18 = (0 : Int).toNat then Ao18 else (Ao18 : Option Addr).map (·.add ((0 : Int).toNat * 1))) := ⟨_, rfl⟩
   obtain ⟨c26, hc26⟩ : ∃ c1, c1 = co18 - (0 : Int).toNat := ⟨_, rfl⟩
   have hy26 : y622.length = y607.length - (0 : Int).toNat := (by rw [Ny622.out, List.length_drop] <;> omega)
   rw [show (y607).drop (0 : Int).toNat = y622 from Ny622.out.symm] at hr26
   replace hr26 : Kd.C Kd.string _ A26 y622.length y622 := (by rw [hA26]; exact hr26)
   rw [← hy26, ← hA26, ← hc26] at hcut26
   have HR625 := Aside0.mk hr26
   have HC625 := Aside0.mk (show y622.length ≤ c26 from by rw [hy26, hc26]; exact Nat.sub_le_sub_right hroom26 _)
   clear hr26 hC26 hroom26 hi026 hsz26 hc26
   have KY26 := Aside0.mk hy26
   have KA26 := Aside0.mk hA26
   clear hy26 hA26
   have KL26 := Aside0.mk (show 0 ≤ y607.length from by omega)
   replace q26 := eq_true q26
   refine start_ (n := 9) (S := fun w' => w'.cell? ⟨gb621, 0, none⟩ = some (.int .i64 (wrap64 (1 + t610))) ∧ w'.cell? ⟨gb621, 1, none⟩ = some (.int .i64 t613) ∧ w'.cell? ⟨gb621, 2, none⟩ = some (.int .i64 (wrap64 (4 + t616))) ∧ w'.cell? ⟨gb621, 3, none⟩ = some (.int .i64 t619) ∧ w'.cell? ⟨gb621, 4, none⟩ = some (.string t620) ∧ w'.cell? ⟨gb621, 5, none⟩ = some (.int .i64 0) ∧ w'.cell? ⟨gb621, 6, none⟩ = some (.slice none 0 0)) (ds := [8]) (lz_ 9 0) (by kernel_rfl) rfl rfl ⟨bc0_ BK621.out, bc1_ BK621.out, bc2_ BK621.out, bc3_ BK621.out, bc4_ BK621.out, bc5_ BK621.out, bc6_ BK621.out⟩ (fun hHeld => ?_); refine with_tabW spec_l13Draw.tab6 spec_l13Draw.bits6 (fun HT_ HW_ => ?_)
   generalize w24.drew = w25 at HO609 BK601 BK621 HI0 HK HB HR625 hHeld ⊢
   refine pt_ 0 31 1 ?_
   refine pt_ 2 33 5 ?_
   refine pt_ 3 34 13 ?_
   refine tt_ 1 32 15 ?_
   refine tt_ 4 35 31 ?_
   refine pt_ 5 36 63 ?_
   refine one_ (i := 6) (N := some 37) (lz_ 9 127) rfl rfl (one_of HT_.out (by kernel_rfl)) (by decide) (fun K hK => ?_)
   refine Kd.R_append_rows_step Kd.string w.heap.size (by rfl) (.tmp 32) (.tmp 36) 26 9 (.string ⟨#[]⟩) 16 rfl Try.underlying26 info9 rfl (by decide) (by omega) (.slice none 0 0) ([] : List ByteArray) y622 _ _ _ (fun k_ => some k_ ≠ (.slice Ao18 y607.length co18 : Value).ownBlock) (fun _ => False) rfl rfl ?aO ?aR (fun _ _ h => h) (fun _ h => h.elim) ?aF (Below.refl _ _) ?aS ?aL ?_
   (case aR => repeat (first | exact (by repeat (first | (with_reducible exact HR625.out) | (with_reducible refine Kd.C_alloc ?_ _) | (with_reducible refine Kd.C_drewN ?_ _) | (with_reducible refine Kd.C_drew ?_) | exact HR625.out)) | (with_reducible refine Kd.C_alloc ?_ _) | (with_reducible refine Kd.C_drewN ?_ _) | (with_reducible refine Kd.C_drew ?_)))
   (case aF => exact (fun k_ hk => Kd.fresh' (lt_ HO609) k_ hk))
   (case aO => exact ((Kd.R_nil _ _ _ _ (fun k_ => some k_ ≠ (.slice Ao18 y607.length co18 : Value).ownBlock))))
   (case aS => exact (keep_size (w := w) (g := g) (row := none) (by repeat (first | (with_reducible first | exact HK.out | apply KeepBut.set_ | apply keep_drewN | apply keep_drew | apply keep_alloc | refine keep_far ?_ GW601.out _ | refine keep_far ?_ GW621.out _) | exact HK.out))))
   (case aL => have := LMc11.out; omega)
   intro v627 w27 ho hb hg hat
   rw [← Ny626.out] at ho
   replace BK601 := Aside0.mk (blk_grown (kb_ BK601.out) hg (by simp [Value.ownBlock]))
   replace BK621 := Aside0.mk (blk_grown (kb_ BK621.out) hg (by simp [Value.ownBlock]))
   replace HB := Aside0.mk (below_weaken (bs3_ HB (IsS84.ge HI0.out) GE601.out GE621.out) HL.out hb)
   replace HI0 := Aside0.mk (IsS84.grown (by repeat (first | (with_reducible first | exact HI0.out | apply IsS84.alloc | apply IsS84.drewN | apply IsS84.drew | apply IsS84.set_1 | apply IsS84.set_2 | refine IsS84.far ?_ NB0_601.out _ | refine IsS84.far ?_ NB0_621.out _) | exact HI0.out)) hg (by simp [Value.ownBlock]))
   replace HK := Aside0.mk (KeepBut.trans (by repeat (first | (with_reducible first | exact HK.out | apply KeepBut.set_ | apply keep_drewN | apply keep_drew | apply keep_alloc | refine keep_far ?_ GW601.out _ | refine keep_far ?_ GW621.out _) | exact HK.out)) (KeepBut.of_grown hg g) (.inl (by simp [Value.ownBlock])))
   replace HR625 := Aside0.mk ((show Kd.C Kd.string w27 A26 y622.length y622 from by rw [Ny622.out, KA26.out]; exact Kd.C_drop (m := 0) (c := co18) ((Kd.R_reads' (Kd.R_after (Kd.R_apart_nil (kr_ HO609.out)) hg hat)).2.2) KL26.out ((Kd.R_reads' (Kd.R_after (Kd.R_apart_nil (kr_ HO609.out)) hg hat)).2.1)))
   replace HO609 := Aside0.mk (Kd.R_after (Kd.R_apart_nil (kr_ HO609.out)) hg hat)
   have HO628 := Aside0.mk ho
   clear ho hb hg hat
   obtain ⟨Ao28, co28, eo28⟩ := Kd.R_slice HO628.out
   (first | subst eo28 | (injection eo28 with f1_ f2_ f3_; have f4_ := f1_.symm; have f5_ := f3_.symm; clear f1_ f2_ f3_; subst f4_; subst f5_))
   refine hK.out _ _ ⟨bc0_ BK621.out, bc1_ BK621.out, bc2_ BK621.out, bc3_ BK621.out, bc4_ BK621.out, bc5_ BK621.out, bc6_ BK621.out⟩ (fun hHeld => ?_)
   clear hK K
   refine no_ 37 ?_
   refine pt_ 7 38 255 ?_
   refine last_ (i := 8) (N := none) (lz_ 9 511) rfl rfl (one_of HT_.out (by kernel_rfl)) (by decide) (fun K hK => ?_)
   have hs29 := bc6_ BK621.out
   have hfs29 := blk_frozen BK621.out 6
   have hns29_0 := NB601_621.out
   have hms29_0 := NB621_601.out
   refine skip_ (w1 := ?_) (by rfl) rfl ?_ ?_
   rotate_left
   ·go_simp
    rfl
   refine hK.out _ _ ?_
   clear hK K
   refine done_ (done_of HT_.out (by kernel_rfl)) ?_
   have hcz30_0 := bc0_ BK621.out
   have hcz30_1 := bc1_ BK621.out
   have hcz30_2 := bc2_ BK621.out
   have hcz30_3 := bc3_ BK621.out
   have hcz30_4 := bc4_ BK621.out
   have hcz30_5 := bc5_ BK621.out
   have hcz30_6 := bc6_ BK621.out
   have hfz30_0 := blk_frozen BK621.out 0
   have hfz30_1 := blk_frozen BK621.out 1
   have hfz30_2 := blk_frozen BK621.out 2
   have hfz30_3 := blk_frozen BK621.out 3
   have hfz30_4 := blk_frozen BK621.out 4
   have hfz30_5 := blk_frozen BK621.out 5
   have hfz30_6 := blk_frozen BK621.out 6
   have hnb31 := NB601_0.out
   have hnc31 := NB0_601.out
   have hcz32_0 := bc0_ BK601.out
   have hcz32_1 := bc1_ BK601.out
   have hcz32_2 := bc2_ BK601.out
   have hcz32_3 := bc3_ BK601.out
   have hcz32_4 := bc4_ BK601.out
   have hcz32_5 := bc5_ BK601.out
   have hcz32_6 := bc6_ BK601.out
   have hfz32_0 := blk_frozen BK601.out 0
   have hfz32_1 := blk_frozen BK601.out 1
   have hfz32_2 := blk_frozen BK601.out 2
   have hfz32_3 := blk_frozen BK601.out 3
   have hfz32_4 := blk_frozen BK601.out 4
   have hfz32_5 := blk_frozen BK601.out 5
   have hfz32_6 := blk_frozen BK601.out 6
   try go_wp2
   refine bodyPost_ret (results_cell_row rfl _ _ gb601 28 #[.int .i64 (wrap64 (1 + t610)), .int .i64 t613, .int .i64 (wrap64 (4 + t616)), .int .i64 t619, .string t620, .int .i64 0, .slice Ao28 y626.length co28] (0, 0) _ rfl (by exact kq_ BK601) Try.underlying28 rfl (by kernel_rfl)) rfl ?_
   exact ⟨_, e2_, by (with_reducible repeat (first | apply Kd.R_alloc | apply Kd.R_drewN | apply Kd.R_drew)); exact Kd.R_mono (Kd.R_far (p := ⟨gb601, 6, none⟩) (Kd.R_far (p := ⟨gb601, 5, none⟩) (Kd.R_far (p := ⟨gb601, 4, none⟩) (Kd.R_far (p := ⟨gb601, 3, none⟩) (Kd.R_far (p := ⟨gb601, 2, none⟩) (Kd.R_far (p := ⟨gb601, 1, none⟩) (Kd.R_far (p := ⟨gb601, 0, none⟩) (Kd.R_far (p := ⟨gb621, 6, none⟩) (Kd.R_types (Kd.R_types HO628.out BK621.out (by decide)) BK601.out (by decide)) (fun _ hk => hk.1.2) (.slice Ao28 y626.length co28)) (fun _ hk => hk.2) (.int .i64 (wrap64 (1 + t610)))) (fun _ hk => hk.2) (.int .i64 t613)) (fun _ hk => hk.2) (.int .i64 (wrap64 (4 + t616)))) (fun _ hk => hk.2) (.int .i64 t619)) (fun _ hk => hk.2) (.string t620)) (fun _ hk => hk.2) (.int .i64 0)) (fun _ hk => hk.2) (.slice Ao28 y626.length co28)) (fun _ hk => trivial), by repeat (first | (with_reducible first | exact HI0.out | apply IsS84.alloc | apply IsS84.drewN | apply IsS84.drew | apply IsS84.set_1 | apply IsS84.set_2 | refine IsS84.far ?_ NB0_601.out _ | refine IsS84.far ?_ NB0_621.out _) | exact HI0.out), by repeat (first | (with_reducible first | exact HB.out | apply below_alloc | apply pw_below_drewN | apply below_drew1 | refine below_set ?_ (IsS84.ge HI0.out) | refine below_set ?_ GE601.out | refine below_set ?_ GE621.out) | exact HB.out), by repeat (first | (with_reducible first | exact HK.out | apply KeepBut.set_ | apply keep_drewN | apply keep_drew | apply keep_alloc | refine keep_far ?_ GW601.out _ | refine keep_far ?_ GW621.out _) | exact HK.out)⟩
  ·have c9b0 : ((wrap64 (1 + t610)) == 3) = false := beq_eq_false_iff_ne.mpr c9
   have c9b1 : ((wrap64 (1 + t610)) != 3) = true := bne_iff_ne.mpr c9
   simp only [Option.some.injEq, Prod.mk.injEq] at H
   obtain ⟨rfl, rfl, rfl, rfl, rfl, rfl, rfl, rfl, rfl⟩ := H
   go_enter Try.func26, Try.ntmps26
   go_wp2_with (first | ((with_reducible refine gd_ 2 ?_); refine bx_ 2 28 #[.int .i64 0, .int .i64 0, .int .i64 0, .int .i64 0, .string (⟨#[]⟩ : ByteArray), .int .i64 0, .slice none 0 0] ?_; intro gb601 hg w33 hbox hb; replace HB := Aside0.mk (below_step (bs1_ HB (IsS84.ge HI0.out)) hb); have BK601 := Aside0.mk hbox; have GW601 := Aside0.mk ((by rw [hg]; exact (keep_size (w := w) (g := g) (row := none) (by repeat (first | (with_reducible first | exact HK.out | apply KeepBut.set_ | apply keep_drewN | apply keep_drew | apply keep_alloc) | exact HK.out))) : w.heap.size ≤ gb601)); have GE601 := Aside0.mk ((Nat.le_trans HW0.out (by rw [hg]; exact (keep_size (w := w) (g := g) (row := none) (by repeat (first | (with_reducible first | exact HK.out | apply KeepBut.set_ | apply keep_drewN | apply keep_drew | apply keep_alloc) | exact HK.out))) : w.heap.size ≤ gb601) : w0.heap.size ≤ gb601)); replace HK := Aside0.mk (KeepBut.trans (by repeat (first | (with_reducible first | exact HK.out | apply KeepBut.set_ | apply keep_drewN | apply keep_drew | apply keep_alloc) | exact HK.out)) (KeepBut.of_below hb g none) (.inl rfl)); have NB0_601 := Aside0.mk ((by rw [hg]; exact Nat.ne_of_lt (IsS84.lt (show IsS84 w0 _ g s0_0 s0_1 s0_2 from by repeat (first | (with_reducible first | exact HI0.out | apply IsS84.alloc | apply IsS84.drewN | apply IsS84.drew | apply IsS84.set_1 | apply IsS84.set_2) | exact HI0.out))) : g ≠ gb601)); have NB601_0 := Aside0.mk ((by rw [hg]; exact Nat.ne_of_gt (IsS84.lt (show IsS84 w0 _ g s0_0 s0_1 s0_2 from by repeat (first | (with_reducible first | exact HI0.out | apply IsS84.alloc | apply IsS84.drewN | apply IsS84.drew | apply IsS84.set_1 | apply IsS84.set_2) | exact HI0.out))) : gb601 ≠ g)); replace HI0 := Aside0.mk (IsS84.below (by repeat (first | (with_reducible first | exact HI0.out | apply IsS84.alloc | apply IsS84.drewN | apply IsS84.drew | apply IsS84.set_1 | apply IsS84.set_2) | exact HI0.out)) hb); clear hb hbox hg) | ((with_reducible refine gk_ 60 ?_); refine gl_ 6 Try.func60 #[.pointer (some ⟨g, 0, none⟩)] ?_; (with_reducible refine (spec_l6List.calls k g s0_0 s0_1 s0_2 t602 t605 t606 w0 _ ?side1 ?side2 A2.out).mono ?_); (case side1 => repeat (first | (with_reducible first | exact HI0.out | apply IsS84.alloc | apply IsS84.drewN | apply IsS84.drew | apply IsS84.set_1 | apply IsS84.set_2 | refine IsS84.far ?_ NB0_601.out _) | exact HI0.out)); (case side2 => repeat (first | (with_reducible first | exact HB.out | apply below_alloc | apply pw_below_drewN | apply below_drew1 | refine below_set ?_ (IsS84.ge HI0.out) | refine below_set ?_ GE601.out) | exact HB.out)); rintro e w34 ⟨v603, rfl, ho0, hi, hb, hk⟩; refine ⟨_, rfl, ?_⟩; replace BK601 := Aside0.mk (KeepBut.blk hk (g' := gb601) (o := .cells #[.int .i64 0, .int .i64 0, .int .i64 0, .int .i64 0, .string (⟨#[]⟩ : ByteArray), .int .i64 0, .slice none 0 0] 28 (0, 0)) (kb_ BK601.out) NB601_0.out (by simp)); have HO604 := Aside0.mk (Kd.R_lower ho0 (keep_size (w := w) (g := g) (row := none) (by repeat (first | (with_reducible first | exact HK.out | apply KeepBut.set_ | apply keep_drewN | apply keep_drew | apply keep_alloc | refine keep_far ?_ GW601.out _) | exact HK.out)))); replace HK := Aside0.mk (KeepBut.trans (by repeat (first | (with_reducible first | exact HK.out | apply KeepBut.set_ | apply keep_drewN | apply keep_drew | apply keep_alloc | refine keep_far ?_ GW601.out _) | exact HK.out)) hk (.inl rfl)); replace HB := Aside0.mk hb; replace HI0 := Aside0.mk hi; clear hb hk hi ho0) | ((with_reducible refine gate_builtin (b := .append) (xs := #[.tmp 6, .tmp 7]) rfl ?_); at_builtin; refine Kd.R_append Kd.string w.heap.size rfl (.tmp 6) (.tmp 7) 26 9 (.string ⟨#[]⟩) 16 rfl Try.underlying26 info9 rfl (by decide) (by omega) v603 t602 (⟨#[113]⟩ : ByteArray) [.string (⟨#[113]⟩ : ByteArray)] (fun _ => True) (fun _ => False) rfl rfl ?aP (fun _ hk => hk.elim) ?aF ?aO (Below.refl _ _) ?aS ?aL ?_; (case aP => exact rfl); (case aF => exact (fun _ _ => trivial)); (case aO => exact (kr_ HO604.out)); (case aS => exact (keep_size (w := w) (g := g) (row := none) (by repeat (first | (with_reducible first | exact HK.out | apply KeepBut.set_ | apply keep_drewN | apply keep_drew | apply keep_alloc | refine keep_far ?_ GW601.out _) | exact HK.out)))); (case aL => have := LMc3.out; omega); intro v608 w35 ho hb hg hat; rw [← Ny607.out] at ho; replace BK601 := kg_ BK601 HO604 hg; replace HB := Aside0.mk (below_weaken (bs2_ HB (IsS84.ge HI0.out) GE601.out) HL.out hb); replace HI0 := Aside0.mk (IsS84.grown (by repeat (first | (with_reducible first | exact HI0.out | apply IsS84.alloc | apply IsS84.drewN | apply IsS84.drew | apply IsS84.set_1 | apply IsS84.set_2 | refine IsS84.far ?_ NB0_601.out _) | exact HI0.out)) hg (IsS84.own_ne HI0.out HO604.out (by decide))); replace HK := Aside0.mk (KeepBut.trans (by repeat (first | (with_reducible first | exact HK.out | apply KeepBut.set_ | apply keep_drewN | apply keep_drew | apply keep_alloc | refine keep_far ?_ GW601.out _) | exact HK.out)) (KeepBut.of_grown hg g) (Kd.R_base2 HO604.out)); have HO609 := Aside0.mk ho; clear HO604; clear ho hb hg hat) | ((with_reducible refine gk_ 27 ?_); refine gl_ 10 Try.func27 #[.pointer (some ⟨g, 0, none⟩), .int .i64 3] ?_; (with_reducible refine (spec_l1Below.calls g s0_0 t605 t606 3 t610 t611 t612 w0 _ ?side1 ?side2 A4.out).mono ?_); (case side1 => repeat (first | (with_reducible first | exact HI0.out | apply IsS84.alloc | apply IsS84.drewN | apply IsS84.drew | apply IsS84.set_1 | apply IsS84.set_2 | refine IsS84.far ?_ NB0_601.out _) | exact HI0.out)); (case side2 => repeat (first | (with_reducible first | exact HB.out | apply below_alloc | apply pw_below_drewN | apply below_drew1 | refine below_set ?_ (IsS84.ge HI0.out) | refine below_set ?_ GE601.out) | exact HB.out)); rintro e w36 ⟨rfl, hi, hb, hk⟩; refine ⟨_, rfl, ?_⟩; replace BK601 := Aside0.mk (KeepBut.blk hk (g' := gb601) (o := .cells #[.int .i64 0, .int .i64 0, .int .i64 0, .int .i64 0, .string (⟨#[]⟩ : ByteArray), .int .i64 0, .slice none 0 0] 28 (0, 0)) (kb_ BK601.out) NB601_0.out (by simp)); replace HO609 := Aside0.mk (Kd.R_mono (Kd.R_keep (IsS84.apart (show IsS84 w0 _ g s0_0 t605 t606 from by repeat (first | (with_reducible first | exact HI0.out | apply IsS84.alloc | apply IsS84.drewN | apply IsS84.drew | apply IsS84.set_1 | apply IsS84.set_2 | refine IsS84.far ?_ NB0_601.out _) | exact HI0.out)) (kr_ HO609.out) (by decide)) hk (fun _ h => h.2)) (fun _ h => h.1)); replace HK := Aside0.mk (KeepBut.trans (by repeat (first | (with_reducible first | exact HK.out | apply KeepBut.set_ | apply keep_drewN | apply keep_drew | apply keep_alloc | refine keep_far ?_ GW601.out _) | exact HK.out)) hk (.inl rfl)); replace HB := Aside0.mk hb; replace HI0 := Aside0.mk hi; clear hb hk hi) | ((with_reducible refine gk_ 27 ?_); refine gl_ 13 Try.func27 #[.pointer (some ⟨g, 0, none⟩), .int .i64 4] ?_; (with_reducible refine (spec_l1Below.calls g s0_0 t611 t612 4 t613 t614 t615 w0 _ ?side1 ?side2 A5.out).mono ?_); (case side1 => repeat (first | (with_reducible first | exact HI0.out | apply IsS84.alloc | apply IsS84.drewN | apply IsS84.drew | apply IsS84.set_1 | apply IsS84.set_2 | refine IsS84.far ?_ NB0_601.out _) | exact HI0.out)); (case side2 => repeat (first | (with_reducible first | exact HB.out | apply below_alloc | apply pw_below_drewN | apply below_drew1 | refine below_set ?_ (IsS84.ge HI0.out) | refine below_set ?_ GE601.out) | exact HB.out)); rintro e w37 ⟨rfl, hi, hb, hk⟩; refine ⟨_, rfl, ?_⟩; replace BK601 := Aside0.mk (KeepBut.blk hk (g' := gb601) (o := .cells #[.int .i64 0, .int .i64 0, .int .i64 0, .int .i64 0, .string (⟨#[]⟩ : ByteArray), .int .i64 0, .slice none 0 0] 28 (0, 0)) (kb_ BK601.out) NB601_0.out (by simp)); replace HO609 := Aside0.mk (Kd.R_mono (Kd.R_keep (IsS84.apart (show IsS84 w0 _ g s0_0 t611 t612 from by repeat (first | (with_reducible first | exact HI0.out | apply IsS84.alloc | apply IsS84.drewN | apply IsS84.drew | apply IsS84.set_1 | apply IsS84.set_2 | refine IsS84.far ?_ NB0_601.out _) | exact HI0.out)) (kr_ HO609.out) (by decide)) hk (fun _ h => h.2)) (fun _ h => h.1)); replace HK := Aside0.mk (KeepBut.trans (by repeat (first | (with_reducible first | exact HK.out | apply KeepBut.set_ | apply keep_drewN | apply keep_drew | apply keep_alloc | refine keep_far ?_ GW601.out _) | exact HK.out)) hk (.inl rfl)); replace HB := Aside0.mk hb; replace HI0 := Aside0.mk hi; clear hb hk hi) | ((with_reducible refine gk_ 27 ?_); refine gl_ 15 Try.func27 #[.pointer (some ⟨g, 0, none⟩), .int .i64 2] ?_; (with_reducible refine (spec_l1Below.calls g s0_0 t614 t615 2 t616 t617 t618 w0 _ ?side1 ?side2 A6.out).mono ?_); (case side1 => repeat (first | (with_reducible first | exact HI0.out | apply IsS84.alloc | apply IsS84.drewN | apply IsS84.drew | apply IsS84.set_1 | apply IsS84.set_2 | refine IsS84.far ?_ NB0_601.out _) | exact HI0.out)); (case side2 => repeat (first | (with_reducible first | exact HB.out | apply below_alloc | apply pw_below_drewN | apply below_drew1 | refine below_set ?_ (IsS84.ge HI0.out) | refine below_set ?_ GE601.out) | exact HB.out)); rintro e w38 ⟨rfl, hi, hb, hk⟩; refine ⟨_, rfl, ?_⟩; replace BK601 := Aside0.mk (KeepBut.blk hk (g' := gb601) (o := .cells #[.int .i64 0, .int .i64 0, .int .i64 0, .int .i64 0, .string (⟨#[]⟩ : ByteArray), .int .i64 0, .slice none 0 0] 28 (0, 0)) (kb_ BK601.out) NB601_0.out (by simp)); replace HO609 := Aside0.mk (Kd.R_mono (Kd.R_keep (IsS84.apart (show IsS84 w0 _ g s0_0 t614 t615 from by repeat (first | (with_reducible first | exact HI0.out | apply IsS84.alloc | apply IsS84.drewN | apply IsS84.drew | apply IsS84.set_1 | apply IsS84.set_2 | refine IsS84.far ?_ NB0_601.out _) | exact HI0.out)) (kr_ HO609.out) (by decide)) hk (fun _ h => h.2)) (fun _ h => h.1)); replace HK := Aside0.mk (KeepBut.trans (by repeat (first | (with_reducible first | exact HK.out | apply KeepBut.set_ | apply keep_drewN | apply keep_drew | apply keep_alloc | refine keep_far ?_ GW601.out _) | exact HK.out)) hk (.inl rfl)); replace HB := Aside0.mk hb; replace HI0 := Aside0.mk hi; clear hb hk hi; obtain ⟨Ao39, co39, eo39⟩ := Kd.R_slice HO609.out; subst eo39) | ((with_reducible refine gq_ 42 18 ?_); refine gc_ 18 Try.func42 (spec_HeadOf.calls k _ _ y607 t619 t620 _ (ch_ HO609) (cl_ HO609) A7.out) ?_; rintro e w40 ⟨rfl, hb⟩; refine ⟨_, rfl, ?_⟩; replace HO609 := rb_ HO609 hb; replace BK601 := kl_ BK601 hb; replace HK := Aside0.mk (KeepBut.trans (by repeat (first | (with_reducible first | exact HK.out | apply KeepBut.set_ | apply keep_drewN | apply keep_drew | apply keep_alloc | refine keep_far ?_ GW601.out _) | exact HK.out)) (KeepBut.of_below hb g none) (.inl rfl)); replace HB := Aside0.mk (below_step (bs2_ HB (IsS84.ge HI0.out) GE601.out) hb); replace HI0 := Aside0.mk (IsS84.below (by repeat (first | (with_reducible first | exact HI0.out | apply IsS84.alloc | apply IsS84.drewN | apply IsS84.drew | apply IsS84.set_1 | apply IsS84.set_2 | refine IsS84.far ?_ NB0_601.out _) | exact HI0.out)) hb); clear hb) | ((with_reducible refine gd_ 4 ?_); refine bx_ 4 28 #[.int .i64 0, .int .i64 0, .int .i64 0, .int .i64 0, .string (⟨#[]⟩ : ByteArray), .int .i64 0, .slice none 0 0] ?_; intro gb621 hg w41 hbox hb; replace HO609 := rb_ HO609 hb; replace HB := Aside0.mk (below_step (bs2_ HB (IsS84.ge HI0.out) GE601.out) hb); have BK621 := Aside0.mk hbox; have GW621 := Aside0.mk ((by rw [hg]; exact (keep_size (w := w) (g := g) (row := none) (by repeat (first | (with_reducible first | exact HK.out | apply KeepBut.set_ | apply keep_drewN | apply keep_drew | apply keep_alloc | refine keep_far ?_ GW601.out _) | exact HK.out))) : w.heap.size ≤ gb621)); have GE621 := Aside0.mk ((Nat.le_trans HW0.out (by rw [hg]; exact (keep_size (w := w) (g := g) (row := none) (by repeat (first | (with_reducible first | exact HK.out | apply KeepBut.set_ | apply keep_drewN | apply keep_drew | apply keep_alloc | refine keep_far ?_ GW601.out _) | exact HK.out))) : w.heap.size ≤ gb621) : w0.heap.size ≤ gb621)); replace HK := Aside0.mk (KeepBut.trans (by repeat (first | (with_reducible first | exact HK.out | apply KeepBut.set_ | apply keep_drewN | apply keep_drew | apply keep_alloc | refine keep_far ?_ GW601.out _) | exact HK.out)) (KeepBut.of_below hb g none) (.inl rfl)); have NB601_621 := Aside0.mk ((by rw [hg]; exact Nat.ne_of_lt (blk_lt (kb_ BK601.out)) : gb601 ≠ gb621)); have NB621_601 := Aside0.mk ((by rw [hg]; exact Nat.ne_of_gt (blk_lt (kb_ BK601.out)) : gb621 ≠ gb601)); replace BK601 := kl_ BK601 hb; have NB0_621 := Aside0.mk ((by rw [hg]; exact Nat.ne_of_lt (IsS84.lt (show IsS84 w0 _ g s0_0 t617 t618 from by repeat (first | (with_reducible first | exact HI0.out | apply IsS84.alloc | apply IsS84.drewN | apply IsS84.drew | apply IsS84.set_1 | apply IsS84.set_2 | refine IsS84.far ?_ NB0_601.out _) | exact HI0.out))) : g ≠ gb621)); have NB621_0 := Aside0.mk ((by rw [hg]; exact Nat.ne_of_gt (IsS84.lt (show IsS84 w0 _ g s0_0 t617 t618 from by repeat (first | (with_reducible first | exact HI0.out | apply IsS84.alloc | apply IsS84.drewN | apply IsS84.drew | apply IsS84.set_1 | apply IsS84.set_2 | refine IsS84.far ?_ NB0_601.out _) | exact HI0.out))) : gb621 ≠ g)); replace HI0 := Aside0.mk (IsS84.below (by repeat (first | (with_reducible first | exact HI0.out | apply IsS84.alloc | apply IsS84.drewN | apply IsS84.drew | apply IsS84.set_1 | apply IsS84.set_2 | refine IsS84.far ?_ NB0_601.out _) | exact HI0.out)) hb); clear hb hbox hg; have hnb42 := NB621_601.out; have hnc42 := NB601_621.out; have hnb43 := NB621_0.out; have hnc43 := NB0_621.out; have hcz44_0 := bc0_ BK621.out; have hcz44_1 := bc1_ BK621.out; have hcz44_2 := bc2_ BK621.out; have hcz44_3 := bc3_ BK621.out; have hcz44_4 := bc4_ BK621.out; have hcz44_5 := bc5_ BK621.out; have hcz44_6 := bc6_ BK621.out; have hfz44_0 := blk_frozen BK621.out 0; have hfz44_1 := blk_frozen BK621.out 1; have hfz44_2 := blk_frozen BK621.out 2; have hfz44_3 := blk_frozen BK621.out 3; have hfz44_4 := blk_frozen BK621.out 4; have hfz44_5 := blk_frozen BK621.out 5; have hfz44_6 := blk_frozen BK621.out 6; have hnb45 := NB601_0.out; have hnc45 := NB0_601.out; have hcz46_0 := bc0_ BK601.out; have hcz46_1 := bc1_ BK601.out; have hcz46_2 := bc2_ BK601.out; have hcz46_3 := bc3_ BK601.out; have hcz46_4 := bc4_ BK601.out; have hcz46_5 := bc5_ BK601.out; have hcz46_6 := bc6_ BK601.out; have hfz46_0 := blk_frozen BK601.out 0; have hfz46_1 := blk_frozen BK601.out 1; have hfz46_2 := blk_frozen BK601.out 2; have hfz46_3 := blk_frozen BK601.out 3; have hfz46_4 := blk_frozen BK601.out 4; have hfz46_5 := blk_frozen BK601.out 5; have hfz46_6 := blk_frozen BK601.out 6))
   refine bodyPost_ret (results_cell_row rfl _ _ gb601 28 #[.int .i64 (wrap64 (1 + t610)), .int .i64 t613, .int .i64 (wrap64 (4 + t616)), .int .i64 t619, .string t620, .int .i64 0, .slice none 0 0] (0, 0) _ rfl (by exact kq_ BK601) Try.underlying28 rfl (by kernel_rfl)) rfl ?_
   exact ⟨_, e2_, by first | exact Kd.R_nil _ _ _ _ _ | exact Kd.N_nil _ _ _ _ _ | exact Kd.V_nil _ _ _ _ _ | exact Kd.Q_nil _ _ _ _ _ | exact Kd.S_nil _ _ _ _ _, by repeat (first | (with_reducible first | exact HI0.out | apply IsS84.alloc | apply IsS84.drewN | apply IsS84.drew | apply IsS84.set_1 | apply IsS84.set_2 | refine IsS84.far ?_ NB0_601.out _ | refine IsS84.far ?_ NB0_621.out _) | exact HI0.out), by repeat (first | (with_reducible first | exact HB.out | apply below_alloc | apply pw_below_drewN | apply below_drew1 | refine below_set ?_ (IsS84.ge HI0.out) | refine below_set ?_ GE601.out | refine below_set ?_ GE621.out) | exact HB.out), by repeat (first | (with_reducible first | exact HK.out | apply KeepBut.set_ | apply keep_drewN | apply keep_drew | apply keep_alloc | refine keep_far ?_ GW601.out _ | refine keep_far ?_ GW621.out _) | exact HK.out)⟩
 ·have c8b0 : ((wrap64 (1 + t610)) == 1) = false := beq_eq_false_iff_ne.mpr c8
  have c8b1 : ((wrap64 (1 + t610)) != 1) = true := bne_iff_ne.mpr c8
  replace H := bi_ H; obtain ⟨⟨t629, t630, t631⟩, A47, H⟩ := H
  dsimp only at H
  replace H := it_ H; obtain ⟨c48, H⟩ | ⟨c48, H⟩ := H
  ·have c48b0 : ((wrap64 (1 + t610)) == 3) = true := beq_iff_eq.mpr c48
   have c48b1 : ((wrap64 (1 + t610)) != 3) = false := bne_eq_false_iff_eq.mpr c48
   clear c48
   replace H := ip_ H; obtain ⟨c49, H⟩ := H
   have c49b0 := eq_true c49
   have c49b1 := decide_eq_true c49
   clear c49
   replace H := ip_ H; obtain ⟨c50, H⟩ := H
   have c50b0 := eq_true c50
   have c50b1 := decide_eq_true c50
   clear c50
   obtain ⟨y632, Ny632, H⟩ := sb_ (y607.drop (t629 : Int).toNat) H
   replace H := ip_ H; obtain ⟨c51, H⟩ := H
   have LMc51 := Aside0.mk c51
   clear c51
   obtain ⟨y636, hy636⟩ : ∃ y_ : List ByteArray, y_ = (([] : List ByteArray) ++ y632) := ⟨_, rfl⟩
   replace H : (some (wrap64 (1 + t610), t613, wrap64 (4 + t616), t619, t620, t629, y636, t630, t631)) = some (r1, r2, r3, r4, r5, r6, r7, r8, r9) := yh_ hy636 H
   have Ny636 := Aside0.mk hy636
   clear hy636
   simp only [Option.some.injEq, Prod.mk.injEq] at H
   obtain ⟨rfl, rfl, rfl, rfl, rfl, rfl, rfl, rfl, rfl⟩ := H
   go_enter Try.func26, Try.ntmps26
   try go_wp2_with (first | ((with_reducible refine gd_ 2 ?_); refine bx_ 2 28 #[.int .i64 0, .int .i64 0, .int .i64 0, .int .i64 0, .string (⟨#[]⟩ : ByteArray), .int .i64 0, .slice none 0 0] ?_; intro gb601 hg w52 hbox hb; replace HB := Aside0.mk (below_step (bs1_ HB (IsS84.ge HI0.out)) hb); have BK601 := Aside0.mk hbox; have GW601 := Aside0.mk ((by rw [hg]; exact (keep_size (w := w) (g := g) (row := none) (by repeat (first | (with_reducible first | exact HK.out | apply KeepBut.set_ | apply keep_drewN | apply keep_drew | apply keep_alloc) | exact HK.out))) : w.heap.size ≤ gb601)); have GE601 := Aside0.mk ((Nat.le_trans HW0.out (by rw [hg]; exact (keep_size (w := w) (g := g) (row := none) (by repeat (first | (with_reducible first | exact HK.out | apply KeepBut.set_ | apply keep_drewN | apply keep_drew | apply keep_alloc) | exact HK.out))) : w.heap.size ≤ gb601) : w0.heap.size ≤ gb601)); replace HK := Aside0.mk (KeepBut.trans (by repeat (first | (with_reducible first | exact HK.out | apply KeepBut.set_ | apply keep_drewN | apply keep_drew | apply keep_alloc) | exact HK.out)) (KeepBut.of_below hb g none) (.inl rfl)); have NB0_601 := Aside0.mk ((by rw [hg]; exact Nat.ne_of_lt (IsS84.lt (show IsS84 w0 _ g s0_0 s0_1 s0_2 from by repeat (first | (with_reducible first | exact HI0.out | apply IsS84.alloc | apply IsS84.drewN | apply IsS84.drew | apply IsS84.set_1 | apply IsS84.set_2) | exact HI0.out))) : g ≠ gb601)); have NB601_0 := Aside0.mk ((by rw [hg]; exact Nat.ne_of_gt (IsS84.lt (show IsS84 w0 _ g s0_0 s0_1 s0_2 from by repeat (first | (with_reducible first | exact HI0.out | apply IsS84.alloc | apply IsS84.drewN | apply IsS84.drew | apply IsS84.set_1 | apply IsS84.set_2) | exact HI0.out))) : gb601 ≠ g)); replace HI0 := Aside0.mk (IsS84.below (by repeat (first | (with_reducible first | exact HI0.out | apply IsS84.alloc | apply IsS84.drewN | apply IsS84.drew | apply IsS84.set_1 | apply IsS84.set_2) | exact HI0.out)) hb); clear hb hbox hg) | ((with_reducible refine gk_ 60 ?_); refine gl_ 6 Try.func60 #[.pointer (some ⟨g, 0, none⟩)] ?_; (with_reducible refine (spec_l6List.calls k g s0_0 s0_1 s0_2 t602 t605 t606 w0 _ ?side1 ?side2 A2.out).mono ?_); (case side1 => repeat (first | (with_reducible first | exact HI0.out | apply IsS84.alloc | apply IsS84.drewN | apply IsS84.drew | apply IsS84.set_1 | apply IsS84.set_2 | refine IsS84.far ?_ NB0_601.out _) | exact HI0.out)); (case side2 => repeat (first | (with_reducible first | exact HB.out | apply below_alloc | apply pw_below_drewN | apply below_drew1 | refine below_set ?_ (IsS84.ge HI0.out) | refine below_set ?_ GE601.out) | exact HB.out)); rintro e w53 ⟨v603, rfl, ho0, hi, hb, hk⟩; refine ⟨_, rfl, ?_⟩; replace BK601 := Aside0.mk (KeepBut.blk hk (g' := gb601) (o := .cells #[.int .i64 0, .int .i64 0, .int .i64 0, .int .i64 0, .string (⟨#[]⟩ : ByteArray), .int .i64 0, .slice none 0 0] 28 (0, 0)) (kb_ BK601.out) NB601_0.out (by simp)); have HO604 := Aside0.mk (Kd.R_lower ho0 (keep_size (w := w) (g := g) (row := none) (by repeat (first | (with_reducible first | exact HK.out | apply KeepBut.set_ | apply keep_drewN | apply keep_drew | apply keep_alloc | refine keep_far ?_ GW601.out _) | exact HK.out)))); replace HK := Aside0.mk (KeepBut.trans (by repeat (first | (with_reducible first | exact HK.out | apply KeepBut.set_ | apply keep_drewN | apply keep_drew | apply keep_alloc | refine keep_far ?_ GW601.out _) | exact HK.out)) hk (.inl rfl)); replace HB := Aside0.mk hb; replace HI0 := Aside0.mk hi; clear hb hk hi ho0) | ((with_reducible refine gate_builtin (b := .append) (xs := #[.tmp 6, .tmp 7]) rfl ?_); at_builtin; refine Kd.R_append Kd.string w.heap.size rfl (.tmp 6) (.tmp 7) 26 9 (.string ⟨#[]⟩) 16 rfl Try.underlying26 info9 rfl (by decide) (by omega) v603 t602 (⟨#[113]⟩ : ByteArray) [.string (⟨#[113]⟩ : ByteArray)] (fun _ => True) (fun _ => False) rfl rfl ?aP (fun _ hk => hk.elim) ?aF ?aO (Below.refl _ _) ?aS ?aL ?_; (case aP => exact rfl); (case aF => exact (fun _ _ => trivial)); (case aO => exact (kr_ HO604.out)); (case aS => exact (keep_size (w := w) (g := g) (row := none) (by repeat (first | (with_reducible first | exact HK.out | apply KeepBut.set_ | apply keep_drewN | apply keep_drew | apply keep_alloc | refine keep_far ?_ GW601.out _) | exact HK.out)))); (case aL => have := LMc3.out; omega); intro v608 w54 ho hb hg hat; rw [← Ny607.out] at ho; replace BK601 := kg_ BK601 HO604 hg; replace HB := Aside0.mk (below_weaken (bs2_ HB (IsS84.ge HI0.out) GE601.out) HL.out hb); replace HI0 := Aside0.mk (IsS84.grown (by repeat (first | (with_reducible first | exact HI0.out | apply IsS84.alloc | apply IsS84.drewN | apply IsS84.drew | apply IsS84.set_1 | apply IsS84.set_2 | refine IsS84.far ?_ NB0_601.out _) | exact HI0.out)) hg (IsS84.own_ne HI0.out HO604.out (by decide))); replace HK := Aside0.mk (KeepBut.trans (by repeat (first | (with_reducible first | exact HK.out | apply KeepBut.set_ | apply keep_drewN | apply keep_drew | apply keep_alloc | refine keep_far ?_ GW601.out _) | exact HK.out)) (KeepBut.of_grown hg g) (Kd.R_base2 HO604.out)); have HO609 := Aside0.mk ho; clear HO604; clear ho hb hg hat) | ((with_reducible refine gk_ 27 ?_); refine gl_ 10 Try.func27 #[.pointer (some ⟨g, 0, none⟩), .int .i64 3] ?_; (with_reducible refine (spec_l1Below.calls g s0_0 t605 t606 3 t610 t611 t612 w0 _ ?side1 ?side2 A4.out).mono ?_); (case side1 => repeat (first | (with_reducible first | exact HI0.out | apply IsS84.alloc | apply IsS84.drewN | apply IsS84.drew | apply IsS84.set_1 | apply IsS84.set_2 | refine IsS84.far ?_ NB0_601.out _) | exact HI0.out)); (case side2 => repeat (first | (with_reducible first | exact HB.out | apply below_alloc | apply pw_below_drewN | apply below_drew1 | refine below_set ?_ (IsS84.ge HI0.out) | refine below_set ?_ GE601.out) | exact HB.out)); rintro e w55 ⟨rfl, hi, hb, hk⟩; refine ⟨_, rfl, ?_⟩; replace BK601 := Aside0.mk (KeepBut.blk hk (g' := gb601) (o := .cells #[.int .i64 0, .int .i64 0, .int .i64 0, .int .i64 0, .string (⟨#[]⟩ : ByteArray), .int .i64 0, .slice none 0 0] 28 (0, 0)) (kb_ BK601.out) NB601_0.out (by simp)); replace HO609 := Aside0.mk (Kd.R_mono (Kd.R_keep (IsS84.apart (show IsS84 w0 _ g s0_0 t605 t606 from by repeat (first | (with_reducible first | exact HI0.out | apply IsS84.alloc | apply IsS84.drewN | apply IsS84.drew | apply IsS84.set_1 | apply IsS84.set_2 | refine IsS84.far ?_ NB0_601.out _) | exact HI0.out)) (kr_ HO609.out) (by decide)) hk (fun _ h => h.2)) (fun _ h => h.1)); replace HK := Aside0.mk (KeepBut.trans (by repeat (first | (with_reducible first | exact HK.out | apply KeepBut.set_ | apply keep_drewN | apply keep_drew | apply keep_alloc | refine keep_far ?_ GW601.out _) | exact HK.out)) hk (.inl rfl)); replace HB := Aside0.mk hb; replace HI0 := Aside0.mk hi; clear hb hk hi) | ((with_reducible refine gk_ 27 ?_); refine gl_ 13 Try.func27 #[.pointer (some ⟨g, 0, none⟩), .int .i64 4] ?_; (with_reducible refine (spec_l1Below.calls g s0_0 t611 t612 4 t613 t614 t615 w0 _ ?side1 ?side2 A5.out).mono ?_); (case side1 => repeat (first | (with_reducible first | exact HI0.out | apply IsS84.alloc | apply IsS84.drewN | apply IsS84.drew | apply IsS84.set_1 | apply IsS84.set_2 | refine IsS84.far ?_ NB0_601.out _) | exact HI0.out)); (case side2 => repeat (first | (with_reducible first | exact HB.out | apply below_alloc | apply pw_below_drewN | apply below_drew1 | refine below_set ?_ (IsS84.ge HI0.out) | refine below_set ?_ GE601.out) | exact HB.out)); rintro e w56 ⟨rfl, hi, hb, hk⟩; refine ⟨_, rfl, ?_⟩; replace BK601 := Aside0.mk (KeepBut.blk hk (g' := gb601) (o := .cells #[.int .i64 0, .int .i64 0, .int .i64 0, .int .i64 0, .string (⟨#[]⟩ : ByteArray), .int .i64 0, .slice none 0 0] 28 (0, 0)) (kb_ BK601.out) NB601_0.out (by simp)); replace HO609 := Aside0.mk (Kd.R_mono (Kd.R_keep (IsS84.apart (show IsS84 w0 _ g s0_0 t611 t612 from by repeat (first | (with_reducible first | exact HI0.out | apply IsS84.alloc | apply IsS84.drewN | apply IsS84.drew | apply IsS84.set_1 | apply IsS84.set_2 | refine IsS84.far ?_ NB0_601.out _) | exact HI0.out)) (kr_ HO609.out) (by decide)) hk (fun _ h => h.2)) (fun _ h => h.1)); replace HK := Aside0.mk (KeepBut.trans (by repeat (first | (with_reducible first | exact HK.out | apply KeepBut.set_ | apply keep_drewN | apply keep_drew | apply keep_alloc | refine keep_far ?_ GW601.out _) | exact HK.out)) hk (.inl rfl)); replace HB := Aside0.mk hb; replace HI0 := Aside0.mk hi; clear hb hk hi) | ((with_reducible refine gk_ 27 ?_); refine gl_ 15 Try.func27 #[.pointer (some ⟨g, 0, none⟩), .int .i64 2] ?_; (with_reducible refine (spec_l1Below.calls g s0_0 t614 t615 2 t616 t617 t618 w0 _ ?side1 ?side2 A6.out).mono ?_); (case side1 => repeat (first | (with_reducible first | exact HI0.out | apply IsS84.alloc | apply IsS84.drewN | apply IsS84.drew | apply IsS84.set_1 | apply IsS84.set_2 | refine IsS84.far ?_ NB0_601.out _) | exact HI0.out)); (case side2 => repeat (first | (with_reducible first | exact HB.out | apply below_alloc | apply pw_below_drewN | apply below_drew1 | refine below_set ?_ (IsS84.ge HI0.out) | refine below_set ?_ GE601.out) | exact HB.out)); rintro e w57 ⟨rfl, hi, hb, hk⟩; refine ⟨_, rfl, ?_⟩; replace BK601 := Aside0.mk (KeepBut.blk hk (g' := gb601) (o := .cells #[.int .i64 0, .int .i64 0, .int .i64 0, .int .i64 0, .string (⟨#[]⟩ : ByteArray), .int .i64 0, .slice none 0 0] 28 (0, 0)) (kb_ BK601.out) NB601_0.out (by simp)); replace HO609 := Aside0.mk (Kd.R_mono (Kd.R_keep (IsS84.apart (show IsS84 w0 _ g s0_0 t614 t615 from by repeat (first | (with_reducible first | exact HI0.out | apply IsS84.alloc | apply IsS84.drewN | apply IsS84.drew | apply IsS84.set_1 | apply IsS84.set_2 | refine IsS84.far ?_ NB0_601.out _) | exact HI0.out)) (kr_ HO609.out) (by decide)) hk (fun _ h => h.2)) (fun _ h => h.1)); replace HK := Aside0.mk (KeepBut.trans (by repeat (first | (with_reducible first | exact HK.out | apply KeepBut.set_ | apply keep_drewN | apply keep_drew | apply keep_alloc | refine keep_far ?_ GW601.out _) | exact HK.out)) hk (.inl rfl)); replace HB := Aside0.mk hb; replace HI0 := Aside0.mk hi; clear hb hk hi; obtain ⟨Ao58, co58, eo58⟩ := Kd.R_slice HO609.out; subst eo58) | ((with_reducible refine gq_ 42 18 ?_); refine gc_ 18 Try.func42 (spec_HeadOf.calls k _ _ y607 t619 t620 _ (ch_ HO609) (cl_ HO609) A7.out) ?_; rintro e w59 ⟨rfl, hb⟩; refine ⟨_, rfl, ?_⟩; replace HO609 := rb_ HO609 hb; replace BK601 := kl_ BK601 hb; replace HK := Aside0.mk (KeepBut.trans (by repeat (first | (with_reducible first | exact HK.out | apply KeepBut.set_ | apply keep_drewN | apply keep_drew | apply keep_alloc | refine keep_far ?_ GW601.out _) | exact HK.out)) (KeepBut.of_below hb g none) (.inl rfl)); replace HB := Aside0.mk (below_step (bs2_ HB (IsS84.ge HI0.out) GE601.out) hb); replace HI0 := Aside0.mk (IsS84.below (by repeat (first | (with_reducible first | exact HI0.out | apply IsS84.alloc | apply IsS84.drewN | apply IsS84.drew | apply IsS84.set_1 | apply IsS84.set_2 | refine IsS84.far ?_ NB0_601.out _) | exact HI0.out)) hb); clear hb) | ((with_reducible refine gd_ 4 ?_); refine bx_ 4 28 #[.int .i64 0, .int .i64 0, .int .i64 0, .int .i64 0, .string (⟨#[]⟩ : ByteArray), .int .i64 0, .slice none 0 0] ?_; intro gb621 hg w60 hbox hb; replace HO609 := rb_ HO609 hb; replace HB := Aside0.mk (below_step (bs2_ HB (IsS84.ge HI0.out) GE601.out) hb); have BK621 := Aside0.mk hbox; have GW621 := Aside0.mk ((by rw [hg]; exact (keep_size (w := w) (g := g) (row := none) (by repeat (first | (with_reducible first | exact HK.out | apply KeepBut.set_ | apply keep_drewN | apply keep_drew | apply keep_alloc | refine keep_far ?_ GW601.out _) | exact HK.out))) : w.heap.size ≤ gb621)); have GE621 := Aside0.mk ((Nat.le_trans HW0.out (by rw [hg]; exact (keep_size (w := w) (g := g) (row := none) (by repeat (first | (with_reducible first | exact HK.out | apply KeepBut.set_ | apply keep_drewN | apply keep_drew | apply keep_alloc | refine keep_far ?_ GW601.out _) | exact HK.out))) : w.heap.size ≤ gb621) : w0.heap.size ≤ gb621)); replace HK := Aside0.mk (KeepBut.trans (by repeat (first | (with_reducible first | exact HK.out | apply KeepBut.set_ | apply keep_drewN | apply keep_drew | apply keep_alloc | refine keep_far ?_ GW601.out _) | exact HK.out)) (KeepBut.of_below hb g none) (.inl rfl)); have NB601_621 := Aside0.mk ((by rw [hg]; exact Nat.ne_of_lt (blk_lt (kb_ BK601.out)) : gb601 ≠ gb621)); have NB621_601 := Aside0.mk ((by rw [hg]; exact Nat.ne_of_gt (blk_lt (kb_ BK601.out)) : gb621 ≠ gb601)); replace BK601 := kl_ BK601 hb; have NB0_621 := Aside0.mk ((by rw [hg]; exact Nat.ne_of_lt (IsS84.lt (show IsS84 w0 _ g s0_0 t617 t618 from by repeat (first | (with_reducible first | exact HI0.out | apply IsS84.alloc | apply IsS84.drewN | apply IsS84.drew | apply IsS84.set_1 | apply IsS84.set_2 | refine IsS84.far ?_ NB0_601.out _) | exact HI0.out))) : g ≠ gb621)); have NB621_0 := Aside0.mk ((by rw [hg]; exact Nat.ne_of_gt (IsS84.lt (show IsS84 w0 _ g s0_0 t617 t618 from by repeat (first | (with_reducible first | exact HI0.out | apply IsS84.alloc | apply IsS84.drewN | apply IsS84.drew | apply IsS84.set_1 | apply IsS84.set_2 | refine IsS84.far ?_ NB0_601.out _) | exact HI0.out))) : gb621 ≠ g)); replace HI0 := Aside0.mk (IsS84.below (by repeat (first | (with_reducible first | exact HI0.out | apply IsS84.alloc | apply IsS84.drewN | apply IsS84.drew | apply IsS84.set_1 | apply IsS84.set_2 | refine IsS84.far ?_ NB0_601.out _) | exact HI0.out)) hb); clear hb hbox hg; have hnb61 := NB621_601.out; have hnc61 := NB601_621.out; have hnb62 := NB621_0.out; have hnc62 := NB0_621.out; have hcz63_0 := bc0_ BK621.out; have hcz63_1 := bc1_ BK621.out; have hcz63_2 := bc2_ BK621.out; have hcz63_3 := bc3_ BK621.out; have hcz63_4 := bc4_ BK621.out; have hcz63_5 := bc5_ BK621.out; have hcz63_6 := bc6_ BK621.out; have hfz63_0 := blk_frozen BK621.out 0; have hfz63_1 := blk_frozen BK621.out 1; have hfz63_2 := blk_frozen BK621.out 2; have hfz63_3 := blk_frozen BK621.out 3; have hfz63_4 := blk_frozen BK621.out 4; have hfz63_5 := blk_frozen BK621.out 5; have hfz63_6 := blk_frozen BK621.out 6) | ((with_reducible refine gk_ 27 ?_); refine gl_ 26 Try.func27 #[.pointer (some ⟨g, 0, none⟩), .int .i64 (y607.length : Int)] ?_; (with_reducible refine (spec_l1Below.calls g s0_0 t617 t618 (y607.length : Int) t629 t630 t631 w0 _ ?side1 ?side2 A47.out).mono ?_); (case side1 => repeat (first | (with_reducible first | exact HI0.out | apply IsS84.alloc | apply IsS84.drewN | apply IsS84.drew | apply IsS84.set_1 | apply IsS84.set_2 | refine IsS84.far ?_ NB0_601.out _ | refine IsS84.far ?_ NB0_621.out _) | exact HI0.out)); (case side2 => repeat (first | (with_reducible first | exact HB.out | apply below_alloc | apply pw_below_drewN | apply below_drew1 | refine below_set ?_ (IsS84.ge HI0.out) | refine below_set ?_ GE601.out | refine below_set ?_ GE621.out) | exact HB.out)); rintro e w64 ⟨rfl, hi, hb, hk⟩; refine ⟨_, rfl, ?_⟩; replace BK601 := Aside0.mk (KeepBut.blk hk (g' := gb601) (o := .cells #[.int .i64 0, .int .i64 0, .int .i64 0, .int .i64 0, .string (⟨#[]⟩ : ByteArray), .int .i64 0, .slice none 0 0] 28 (0, 0)) (kq_ BK601) NB601_0.out (by simp)); replace HO609 := Aside0.mk (Kd.R_mono (Kd.R_keep (IsS84.apart (show IsS84 w0 _ g s0_0 t617 t618 from by repeat (first | (with_reducible first | exact HI0.out | apply IsS84.alloc | apply IsS84.drewN | apply IsS84.drew | apply IsS84.set_1 | apply IsS84.set_2 | refine IsS84.far ?_ NB0_601.out _ | refine IsS84.far ?_ NB0_621.out _) | exact HI0.out)) (kf_ HO609 BK621) (by decide)) hk (fun _ h => h.2)) (fun _ h => h.1)); replace BK621 := Aside0.mk (KeepBut.blk hk (g' := gb621) (o := .cells #[.int .i64 (wrap64 (1 + t610)), .int .i64 t613, .int .i64 (wrap64 (4 + t616)), .int .i64 t619, .string t620, .int .i64 0, .slice none 0 0] 28 (0, 0)) (kq_ BK621) NB621_0.out (by simp)); replace HK := Aside0.mk (KeepBut.trans (by repeat (first | (with_reducible first | exact HK.out | apply KeepBut.set_ | apply keep_drewN | apply keep_drew | apply keep_alloc | refine keep_far ?_ GW601.out _ | refine keep_far ?_ GW621.out _) | exact HK.out)) hk (.inl rfl)); replace HB := Aside0.mk hb; replace HI0 := Aside0.mk hi; clear hb hk hi; have hcz65_0 := bc0_ BK621.out; have hcz65_1 := bc1_ BK621.out; have hcz65_2 := bc2_ BK621.out; have hcz65_3 := bc3_ BK621.out; have hcz65_4 := bc4_ BK621.out; have hcz65_5 := bc5_ BK621.out; have hcz65_6 := bc6_ BK621.out; have hfz65_0 := blk_frozen BK621.out 0; have hfz65_1 := blk_frozen BK621.out 1; have hfz65_2 := blk_frozen BK621.out 2; have hfz65_3 := blk_frozen BK621.out 3; have hfz65_4 := blk_frozen BK621.out 4; have hfz65_5 := blk_frozen BK621.out 5; have hfz65_6 := blk_frozen BK621.out 6))
   have n0_ : Aside0 (Kd.R Kd.string 9 (w64.setCell ⟨gb621, 5, none⟩ (.int .i64 t629)) w.heap.size (fun _ => True) (.slice Ao58 y607.length co58) y607) := ⟨by (with_reducible repeat (first | apply Kd.R_alloc | apply Kd.R_drewN | apply Kd.R_drew)); exact Kd.R_mono (Kd.R_far (p := ⟨gb621, 5, none⟩) (Kd.R_types HO609.out BK621.out (by decide)) (fun _ hk => hk.2) (.int .i64 t629)) (fun _ hk => trivial)⟩
   have n1_ : Aside0 ((w64.setCell ⟨gb621, 5, none⟩ (.int .i64 t629)).heap[gb601]? = some (.cells #[.int .i64 0, .int .i64 0, .int .i64 0, .int .i64 0, .string (⟨#[]⟩ : ByteArray), .int .i64 0, .slice none 0 0] 28 (0, 0))) := ⟨kq_ BK601⟩
   have n2_ : Aside0 ((w64.setCell ⟨gb621, 5, none⟩ (.int .i64 t629)).heap[gb621]? = some (.cells #[.int .i64 (wrap64 (1 + t610)), .int .i64 t613, .int .i64 (wrap64 (4 + t616)), .int .i64 t619, .string t620, .int .i64 t629, .slice none 0 0] 28 (0, 0))) := ⟨kq_ BK621⟩
   have n3_ : Aside0 (IsS84 w0 (w64.setCell ⟨gb621, 5, none⟩ (.int .i64 t629)) g s0_0 t630 t631) := ⟨by repeat (first | (with_reducible first | exact HI0.out | apply IsS84.alloc | apply IsS84.drewN | apply IsS84.drew | apply IsS84.set_1 | apply IsS84.set_2 | refine IsS84.far ?_ NB0_601.out _ | refine IsS84.far ?_ NB0_621.out _) | exact HI0.out)⟩
   have n4_ : Aside0 (KeepBut w (w64.setCell ⟨gb621, 5, none⟩ (.int .i64 t629)) g none) := ⟨by repeat (first | (with_reducible first | exact HK.out | apply KeepBut.set_ | apply keep_drewN | apply keep_drew | apply keep_alloc | refine keep_far ?_ GW601.out _ | refine keep_far ?_ GW621.out _) | exact HK.out)⟩
   have n5_ : Aside0 (Below w0.heap.size w0 (w64.setCell ⟨gb621, 5, none⟩ (.int .i64 t629))) := ⟨by repeat (first | (with_reducible first | exact HB.out | apply below_alloc | apply pw_below_drewN | apply below_drew1 | refine below_set ?_ (IsS84.ge HI0.out) | refine below_set ?_ GE601.out | refine below_set ?_ GE621.out) | exact HB.out)⟩
   generalize (w64.setCell ⟨gb621, 5, none⟩ (.int .i64 t629)) = w66 at n0_ n1_ n2_ n3_ n4_ n5_ ⊢
   have HO609 := n0_
   have BK601 := n1_
   have BK621 := n2_
   have HI0 := n3_
   have HK := n4_
   have HB := n5_
   clear n0_ n1_ n2_ n3_ n4_ n5_
   replace HO609 := Aside0.mk (Kd.R_drew HO609.out)
   replace BK601 := Aside0.mk (blk_drew BK601.out)
   replace BK621 := Aside0.mk (blk_drew BK621.out)
   replace HI0 := Aside0.mk (IsS84.drew HI0.out)
   replace HK := Aside0.mk (keep_drew HK.out)
   replace HB := Aside0.mk (below_drew1 HB.out)
   have q68 : (t629 : Int) ≤ ((y607.length : Int) : Int) := of_decide_eq_true as_
   obtain ⟨i068, hi068, _, hsz68, _⟩ := info_parts info9
   have hroom68 : y607.length ≤ co58 := (cl_ HO609)
   have hC68 : Kd.C Kd.string _ Ao58 y607.length y607 := (Kd.R_reads' HO609.out).2.2
   have q068 : (0 : Int) ≤ (t629 : Int) := of_decide_eq_true as_
   have hcut68 := cut_from (P := Try.prog) 26 9 .i64 Try.underlying26 hi068 1 hsz68 Ao58 y607.length co58 t629 q068 q68
   have hr68 := Kd.C_drop (m := (t629 : Int).toNat) (c := co58) hC68 (by omega) hroom68
   obtain ⟨A68, hA68⟩ : ∃ A1, A1 = (if co58 = (t629 : Int).toNat then Ao58 else (Ao58 : Option Addr).map (·.add ((t629 : Int).toNat * 1))) := ⟨_, rfl⟩
   obtain ⟨c68, hc68⟩ : ∃ c1, c1 = co58 - (t629 : Int).toNat := ⟨_, rfl⟩
   have hy68 : y632.length = y607.length - (t629 : Int).toNat := (by rw [Ny632.out, List.length_drop] <;> omega)
   rw [show (y607).drop (t629 : Int).toNat = y632 from Ny632.out.symm] at hr68
   replace hr68 : Kd.C Kd.string _ A68 y632.length y632 := (by rw [hA68]; exact hr68)
   rw [← hy68, ← hA68, ← hc68] at hcut68
   have HR635 := Aside0.mk hr68
   have HC635 := Aside0.mk (show y632.length ≤ c68 from by rw [hy68, hc68]; exact Nat.sub_le_sub_right hroom68 _)
   clear hr68 hC68 hroom68 hi068 hsz68 hc68
   have KY68 := Aside0.mk hy68
   have KA68 := Aside0.mk hA68
   clear hy68 hA68
   have KL68 := Aside0.mk (show (t629 : Int).toNat ≤ y607.length from by omega)
   replace q68 := eq_true q68
   refine start_ (n := 9) (S := fun w' => w'.cell? ⟨gb621, 0, none⟩ = some (.int .i64 (wrap64 (1 + t610))) ∧ w'.cell? ⟨gb621, 1, none⟩ = some (.int .i64 t613) ∧ w'.cell? ⟨gb621, 2, none⟩ = some (.int .i64 (wrap64 (4 + t616))) ∧ w'.cell? ⟨gb621, 3, none⟩ = some (.int .i64 t619) ∧ w'.cell? ⟨gb621, 4, none⟩ = some (.string t620) ∧ w'.cell? ⟨gb621, 5, none⟩ = some (.int .i64 t629) ∧ w'.cell? ⟨gb621, 6, none⟩ = some (.slice none 0 0)) (ds := [8]) (lz_ 9 0) (by kernel_rfl) rfl rfl ⟨bc0_ BK621.out, bc1_ BK621.out, bc2_ BK621.out, bc3_ BK621.out, bc4_ BK621.out, bc5_ BK621.out, bc6_ BK621.out⟩ (fun hHeld => ?_); refine with_tabW spec_l13Draw.tab6 spec_l13Draw.bits6 (fun HT_ HW_ => ?_)
   generalize w66.drew = w67 at HO609 BK601 BK621 HI0 HK HB HR635 hHeld ⊢
   refine pt_ 0 31 1 ?_
   refine pt_ 2 33 5 ?_
   refine pt_ 3 34 13 ?_
   refine tt_ 1 32 15 ?_
   refine tt_ 4 35 31 ?_
   refine pt_ 5 36 63 ?_
   refine one_ (i := 6) (N := some 37) (lz_ 9 127) rfl rfl (one_of HT_.out (by kernel_rfl)) (by decide) (fun K hK => ?_)
   refine Kd.R_append_rows_step Kd.string w.heap.size (by rfl) (.tmp 32) (.tmp 36) 26 9 (.string ⟨#[]⟩) 16 rfl Try.underlying26 info9 rfl (by decide) (by omega) (.slice none 0 0) ([] : List ByteArray) y632 _ _ _ (fun k_ => some k_ ≠ (.slice Ao58 y607.length co58 : Value).ownBlock) (fun _ => False) rfl rfl ?aO ?aR (fun _ _ h => h) (fun _ h => h.elim) ?aF (Below.refl _ _) ?aS ?aL ?_
   (case aR => repeat (first | exact (by repeat (first | (with_reducible exact HR635.out) | (with_reducible refine Kd.C_alloc ?_ _) | (with_reducible refine Kd.C_drewN ?_ _) | (with_reducible refine Kd.C_drew ?_) | exact HR635.out)) | (with_reducible refine Kd.C_alloc ?_ _) | (with_reducible refine Kd.C_drewN ?_ _) | (with_reducible refine Kd.C_drew ?_)))
   (case aF => exact (fun k_ hk => Kd.fresh' (lt_ HO609) k_ hk))
   (case aO => exact ((Kd.R_nil _ _ _ _ (fun k_ => some k_ ≠ (.slice Ao58 y607.length co58 : Value).ownBlock))))
   (case aS => exact (keep_size (w := w) (g := g) (row := none) (by repeat (first | (with_reducible first | exact HK.out | apply KeepBut.set_ | apply keep_drewN | apply keep_drew | apply keep_alloc | refine keep_far ?_ GW601.out _ | refine keep_far ?_ GW621.out _) | exact HK.out))))
   (case aL => have := LMc51.out; omega)
   intro v637 w69 ho hb hg hat
   rw [← Ny636.out] at ho
   replace BK601 := Aside0.mk (blk_grown (kb_ BK601.out) hg (by simp [Value.ownBlock]))
   replace BK621 := Aside0.mk (blk_grown (kb_ BK621.out) hg (by simp [Value.ownBlock]))
   replace HB := Aside0.mk (below_weaken (bs3_ HB (IsS84.ge HI0.out) GE601.out GE621.out) HL.out hb)
   replace HI0 := Aside0.mk (IsS84.grown (by repeat (first | (with_reducible first | exact HI0.out | apply IsS84.alloc | apply IsS84.drewN | apply IsS84.drew | apply IsS84.set_1 | apply IsS84.set_2 | refine IsS84.far ?_ NB0_601.out _ | refine IsS84.far ?_ NB0_621.out _) | exact HI0.out)) hg (by simp [Value.ownBlock]))
   replace HK := Aside0.mk (KeepBut.trans (by repeat (first | (with_reducible first | exact HK.out | apply KeepBut.set_ | apply keep_drewN | apply keep_drew | apply keep_alloc | refine keep_far ?_ GW601.out _ | refine keep_far ?_ GW621.out _) | exact HK.out)) (KeepBut.of_grown hg g) (.inl (by simp [Value.ownBlock])))
   replace HR635 := Aside0.mk ((show Kd.C Kd.string w69 A68 y632.length y632 from by rw [Ny632.out, KA68.out]; exact Kd.C_drop (m := (t629 : Int).toNat) (c := co58) ((Kd.R_reads' (Kd.R_after (Kd.R_apart_nil (kr_ HO609.out)) hg hat)).2.2) KL68.out ((Kd.R_reads' (Kd.R_after (Kd.R_apart_nil (kr_ HO609.out)) hg hat)).2.1)))
   replace HO609 := Aside0.mk (Kd.R_after (Kd.R_apart_nil (kr_ HO609.out)) hg hat)
   have HO638 := Aside0.mk ho
   clear ho hb hg hat
   obtain ⟨Ao70, co70, eo70⟩ := Kd.R_slice HO638.out
   (first | subst eo70 | (injection eo70 with f1_ f2_ f3_; have f4_ := f1_.symm; have f5_ := f3_.symm; clear f1_ f2_ f3_; subst f4_; subst f5_))
   refine hK.out _ _ ⟨bc0_ BK621.out, bc1_ BK621.out, bc2_ BK621.out, bc3_ BK621.out, bc4_ BK621.out, bc5_ BK621.out, bc6_ BK621.out⟩ (fun hHeld => ?_)
   clear hK K
   refine no_ 37 ?_
   refine pt_ 7 38 255 ?_
   refine last_ (i := 8) (N := none) (lz_ 9 511) rfl rfl (one_of HT_.out (by kernel_rfl)) (by decide) (fun K hK => ?_)
   have hs71 := bc6_ BK621.out
   have hfs71 := blk_frozen BK621.out 6
   have hns71_0 := NB601_621.out
   have hms71_0 := NB621_601.out
   refine skip_ (w1 := ?_) (by rfl) rfl ?_ ?_
   rotate_left
   ·go_simp
    rfl
   refine hK.out _ _ ?_
   clear hK K
   refine done_ (done_of HT_.out (by kernel_rfl)) ?_
   have hcz72_0 := bc0_ BK621.out
   have hcz72_1 := bc1_ BK621.out
   have hcz72_2 := bc2_ BK621.out
   have hcz72_3 := bc3_ BK621.out
   have hcz72_4 := bc4_ BK621.out
   have hcz72_5 := bc5_ BK621.out
   have hcz72_6 := bc6_ BK621.out
   have hfz72_0 := blk_frozen BK621.out 0
   have hfz72_1 := blk_frozen BK621.out 1
   have hfz72_2 := blk_frozen BK621.out 2
   have hfz72_3 := blk_frozen BK621.out 3
   have hfz72_4 := blk_frozen BK621.out 4
   have hfz72_5 := blk_frozen BK621.out 5
   have hfz72_6 := blk_frozen BK621.out 6
   have hnb73 := NB601_0.out
   have hnc73 := NB0_601.out
   have hcz74_0 := bc0_ BK601.out
   have hcz74_1 := bc1_ BK601.out
   have hcz74_2 := bc2_ BK601.out
   have hcz74_3 := bc3_ BK601.out
   have hcz74_4 := bc4_ BK601.out
   have hcz74_5 := bc5_ BK601.out
   have hcz74_6 := bc6_ BK601.out
   have hfz74_0 := blk_frozen BK601.out 0
   have hfz74_1 := blk_frozen BK601.out 1
   have hfz74_2 := blk_frozen BK601.out 2
   have hfz74_3 := blk_frozen BK601.out 3
   have hfz74_4 := blk_frozen BK601.out 4
   have hfz74_5 := blk_frozen BK601.out 5
   have hfz74_6 := blk_frozen BK601.out 6
   try go_wp2
   refine bodyPost_ret (results_cell_row rfl _ _ gb601 28 #[.int .i64 (wrap64 (1 + t610)), .int .i64 t613, .int .i64 (wrap64 (4 + t616)), .int .i64 t619, .string t620, .int .i64 t629, .slice Ao70 y636.length co70] (0, 0) _ rfl (by exact kq_ BK601) Try.underlying28 rfl (by kernel_rfl)) rfl ?_
   exact ⟨_, e2_, by (with_reducible repeat (first | apply Kd.R_alloc | apply Kd.R_drewN | apply Kd.R_drew)); exact Kd.R_mono (Kd.R_far (p := ⟨gb601, 6, none⟩) (Kd.R_far (p := ⟨gb601, 5, none⟩) (Kd.R_far (p := ⟨gb601, 4, none⟩) (Kd.R_far (p := ⟨gb601, 3, none⟩) (Kd.R_far (p := ⟨gb601, 2, none⟩) (Kd.R_far (p := ⟨gb601, 1, none⟩) (Kd.R_far (p := ⟨gb601, 0, none⟩) (Kd.R_far (p := ⟨gb621, 6, none⟩) (Kd.R_types (Kd.R_types HO638.out BK621.out (by decide)) BK601.out (by decide)) (fun _ hk => hk.1.2) (.slice Ao70 y636.length co70)) (fun _ hk => hk.2) (.int .i64 (wrap64 (1 + t610)))) (fun _ hk => hk.2) (.int .i64 t613)) (fun _ hk => hk.2) (.int .i64 (wrap64 (4 + t616)))) (fun _ hk => hk.2) (.int .i64 t619)) (fun _ hk => hk.2) (.string t620)) (fun _ hk => hk.2) (.int .i64 t629)) (fun _ hk => hk.2) (.slice Ao70 y636.length co70)) (fun _ hk => trivial), by repeat (first | (with_reducible first | exact HI0.out | apply IsS84.alloc | apply IsS84.drewN | apply IsS84.drew | apply IsS84.set_1 | apply IsS84.set_2 | refine IsS84.far ?_ NB0_601.out _ | refine IsS84.far ?_ NB0_621.out _) | exact HI0.out), by repeat (first | (with_reducible first | exact HB.out | apply below_alloc | apply pw_below_drewN | apply below_drew1 | refine below_set ?_ (IsS84.ge HI0.out) | refine below_set ?_ GE601.out | refine below_set ?_ GE621.out) | exact HB.out), by repeat (first | (with_reducible first | exact HK.out | apply KeepBut.set_ | apply keep_drewN | apply keep_drew | apply keep_alloc | refine keep_far ?_ GW601.out _ | refine keep_far ?_ GW621.out _) | exact HK.out)⟩
  ·have c48b0 : ((wrap64 (1 + t610)) == 3) = false := beq_eq_false_iff_ne.mpr c48
   have c48b1 : ((wrap64 (1 + t610)) != 3) = true := bne_iff_ne.mpr c48
   simp only [Option.some.injEq, Prod.mk.injEq] at H
   obtain ⟨rfl, rfl, rfl, rfl, rfl, rfl, rfl, rfl, rfl⟩ := H
   go_enter Try.func26, Try.ntmps26
   go_wp2_with (first | ((with_reducible refine gd_ 2 ?_); refine bx_ 2 28 #[.int .i64 0, .int .i64 0, .int .i64 0, .int .i64 0, .string (⟨#[]⟩ : ByteArray), .int .i64 0, .slice none 0 0] ?_; intro gb601 hg w75 hbox hb; replace HB := Aside0.mk (below_step (bs1_ HB (IsS84.ge HI0.out)) hb); have BK601 := Aside0.mk hbox; have GW601 := Aside0.mk ((by rw [hg]; exact (keep_size (w := w) (g := g) (row := none) (by repeat (first | (with_reducible first | exact HK.out | apply KeepBut.set_ | apply keep_drewN | apply keep_drew | apply keep_alloc) | exact HK.out))) : w.heap.size ≤ gb601)); have GE601 := Aside0.mk ((Nat.le_trans HW0.out (by rw [hg]; exact (keep_size (w := w) (g := g) (row := none) (by repeat (first | (with_reducible first | exact HK.out | apply KeepBut.set_ | apply keep_drewN | apply keep_drew | apply keep_alloc) | exact HK.out))) : w.heap.size ≤ gb601) : w0.heap.size ≤ gb601)); replace HK := Aside0.mk (KeepBut.trans (by repeat (first | (with_reducible first | exact HK.out | apply KeepBut.set_ | apply keep_drewN | apply keep_drew | apply keep_alloc) | exact HK.out)) (KeepBut.of_below hb g none) (.inl rfl)); have NB0_601 := Aside0.mk ((by rw [hg]; exact Nat.ne_of_lt (IsS84.lt (show IsS84 w0 _ g s0_0 s0_1 s0_2 from by repeat (first | (with_reducible first | exact HI0.out | apply IsS84.alloc | apply IsS84.drewN | apply IsS84.drew | apply IsS84.set_1 | apply IsS84.set_2) | exact HI0.out))) : g ≠ gb601)); have NB601_0 := Aside0.mk ((by rw [hg]; exact Nat.ne_of_gt (IsS84.lt (show IsS84 w0 _ g s0_0 s0_1 s0_2 from by repeat (first | (with_reducible first | exact HI0.out | apply IsS84.alloc | apply IsS84.drewN | apply IsS84.drew | apply IsS84.set_1 | apply IsS84.set_2) | exact HI0.out))) : gb601 ≠ g)); replace HI0 := Aside0.mk (IsS84.below (by repeat (first | (with_reducible first | exact HI0.out | apply IsS84.alloc | apply IsS84.drewN | apply IsS84.drew | apply IsS84.set_1 | apply IsS84.set_2) | exact HI0.out)) hb); clear hb hbox hg) | ((with_reducible refine gk_ 60 ?_); refine gl_ 6 Try.func60 #[.pointer (some ⟨g, 0, none⟩)] ?_; (with_reducible refine (spec_l6List.calls k g s0_0 s0_1 s0_2 t602 t605 t606 w0 _ ?side1 ?side2 A2.out).mono ?_); (case side1 => repeat (first | (with_reducible first | exact HI0.out | apply IsS84.alloc | apply IsS84.drewN | apply IsS84.drew | apply IsS84.set_1 | apply IsS84.set_2 | refine IsS84.far ?_ NB0_601.out _) | exact HI0.out)); (case side2 => repeat (first | (with_reducible first | exact HB.out | apply below_alloc | apply pw_below_drewN | apply below_drew1 | refine below_set ?_ (IsS84.ge HI0.out) | refine below_set ?_ GE601.out) | exact HB.out)); rintro e w76 ⟨v603, rfl, ho0, hi, hb, hk⟩; refine ⟨_, rfl, ?_⟩; replace BK601 := Aside0.mk (KeepBut.blk hk (g' := gb601) (o := .cells #[.int .i64 0, .int .i64 0, .int .i64 0, .int .i64 0, .string (⟨#[]⟩ : ByteArray), .int .i64 0, .slice none 0 0] 28 (0, 0)) (kb_ BK601.out) NB601_0.out (by simp)); have HO604 := Aside0.mk (Kd.R_lower ho0 (keep_size (w := w) (g := g) (row := none) (by repeat (first | (with_reducible first | exact HK.out | apply KeepBut.set_ | apply keep_drewN | apply keep_drew | apply keep_alloc | refine keep_far ?_ GW601.out _) | exact HK.out)))); replace HK := Aside0.mk (KeepBut.trans (by repeat (first | (with_reducible first | exact HK.out | apply KeepBut.set_ | apply keep_drewN | apply keep_drew | apply keep_alloc | refine keep_far ?_ GW601.out _) | exact HK.out)) hk (.inl rfl)); replace HB := Aside0.mk hb; replace HI0 := Aside0.mk hi; clear hb hk hi ho0) | ((with_reducible refine gate_builtin (b := .append) (xs := #[.tmp 6, .tmp 7]) rfl ?_); at_builtin; refine Kd.R_append Kd.string w.heap.size rfl (.tmp 6) (.tmp 7) 26 9 (.string ⟨#[]⟩) 16 rfl Try.underlying26 info9 rfl (by decide) (by omega) v603 t602 (⟨#[113]⟩ : ByteArray) [.string (⟨#[113]⟩ : ByteArray)] (fun _ => True) (fun _ => False) rfl rfl ?aP (fun _ hk => hk.elim) ?aF ?aO (Below.refl _ _) ?aS ?aL ?_; (case aP => exact rfl); (case aF => exact (fun _ _ => trivial)); (case aO => exact (kr_ HO604.out)); (case aS => exact (keep_size (w := w) (g := g) (row := none) (by repeat (first | (with_reducible first | exact HK.out | apply KeepBut.set_ | apply keep_drewN | apply keep_drew | apply keep_alloc | refine keep_far ?_ GW601.out _) | exact HK.out)))); (case aL => have := LMc3.out; omega); intro v608 w77 ho hb hg hat; rw [← Ny607.out] at ho; replace BK601 := kg_ BK601 HO604 hg; replace HB := Aside0.mk (below_weaken (bs2_ HB (IsS84.ge HI0.out) GE601.out) HL.out hb); replace HI0 := Aside0.mk (IsS84.grown (by repeat (first | (with_reducible first | exact HI0.out | apply IsS84.alloc | apply IsS84.drewN | apply IsS84.drew | apply IsS84.set_1 | apply IsS84.set_2 | refine IsS84.far ?_ NB0_601.out _) | exact HI0.out)) hg (IsS84.own_ne HI0.out HO604.out (by decide))); replace HK := Aside0.mk (KeepBut.trans (by repeat (first | (with_reducible first | exact HK.out | apply KeepBut.set_ | apply keep_drewN | apply keep_drew | apply keep_alloc | refine keep_far ?_ GW601.out _) | exact HK.out)) (KeepBut.of_grown hg g) (Kd.R_base2 HO604.out)); have HO609 := Aside0.mk ho; clear HO604; clear ho hb hg hat) | ((with_reducible refine gk_ 27 ?_); refine gl_ 10 Try.func27 #[.pointer (some ⟨g, 0, none⟩), .int .i64 3] ?_; (with_reducible refine (spec_l1Below.calls g s0_0 t605 t606 3 t610 t611 t612 w0 _ ?side1 ?side2 A4.out).mono ?_); (case side1 => repeat (first | (with_reducible first | exact HI0.out | apply IsS84.alloc | apply IsS84.drewN | apply IsS84.drew | apply IsS84.set_1 | apply IsS84.set_2 | refine IsS84.far ?_ NB0_601.out _) | exact HI0.out)); (case side2 => repeat (first | (with_reducible first | exact HB.out | apply below_alloc | apply pw_below_drewN | apply below_drew1 | refine below_set ?_ (IsS84.ge HI0.out) | refine below_set ?_ GE601.out) | exact HB.out)); rintro e w78 ⟨rfl, hi, hb, hk⟩; refine ⟨_, rfl, ?_⟩; replace BK601 := Aside0.mk (KeepBut.blk hk (g' := gb601) (o := .cells #[.int .i64 0, .int .i64 0, .int .i64 0, .int .i64 0, .string (⟨#[]⟩ : ByteArray), .int .i64 0, .slice none 0 0] 28 (0, 0)) (kb_ BK601.out) NB601_0.out (by simp)); replace HO609 := Aside0.mk (Kd.R_mono (Kd.R_keep (IsS84.apart (show IsS84 w0 _ g s0_0 t605 t606 from by repeat (first | (with_reducible first | exact HI0.out | apply IsS84.alloc | apply IsS84.drewN | apply IsS84.drew | apply IsS84.set_1 | apply IsS84.set_2 | refine IsS84.far ?_ NB0_601.out _) | exact HI0.out)) (kr_ HO609.out) (by decide)) hk (fun _ h => h.2)) (fun _ h => h.1)); replace HK := Aside0.mk (KeepBut.trans (by repeat (first | (with_reducible first | exact HK.out | apply KeepBut.set_ | apply keep_drewN | apply keep_drew | apply keep_alloc | refine keep_far ?_ GW601.out _) | exact HK.out)) hk (.inl rfl)); replace HB := Aside0.mk hb; replace HI0 := Aside0.mk hi; clear hb hk hi) | ((with_reducible refine gk_ 27 ?_); refine gl_ 13 Try.func27 #[.pointer (some ⟨g, 0, none⟩), .int .i64 4] ?_; (with_reducible refine (spec_l1Below.calls g s0_0 t611 t612 4 t613 t614 t615 w0 _ ?side1 ?side2 A5.out).mono ?_); (case side1 => repeat (first | (with_reducible first | exact HI0.out | apply IsS84.alloc | apply IsS84.drewN | apply IsS84.drew | apply IsS84.set_1 | apply IsS84.set_2 | refine IsS84.far ?_ NB0_601.out _) | exact HI0.out)); (case side2 => repeat (first | (with_reducible first | exact HB.out | apply below_alloc | apply pw_below_drewN | apply below_drew1 | refine below_set ?_ (IsS84.ge HI0.out) | refine below_set ?_ GE601.out) | exact HB.out)); rintro e w79 ⟨rfl, hi, hb, hk⟩; refine ⟨_, rfl, ?_⟩; replace BK601 := Aside0.mk (KeepBut.blk hk (g' := gb601) (o := .cells #[.int .i64 0, .int .i64 0, .int .i64 0, .int .i64 0, .string (⟨#[]⟩ : ByteArray), .int .i64 0, .slice none 0 0] 28 (0, 0)) (kb_ BK601.out) NB601_0.out (by simp)); replace HO609 := Aside0.mk (Kd.R_mono (Kd.R_keep (IsS84.apart (show IsS84 w0 _ g s0_0 t611 t612 from by repeat (first | (with_reducible first | exact HI0.out | apply IsS84.alloc | apply IsS84.drewN | apply IsS84.drew | apply IsS84.set_1 | apply IsS84.set_2 | refine IsS84.far ?_ NB0_601.out _) | exact HI0.out)) (kr_ HO609.out) (by decide)) hk (fun _ h => h.2)) (fun _ h => h.1)); replace HK := Aside0.mk (KeepBut.trans (by repeat (first | (with_reducible first | exact HK.out | apply KeepBut.set_ | apply keep_drewN | apply keep_drew | apply keep_alloc | refine keep_far ?_ GW601.out _) | exact HK.out)) hk (.inl rfl)); replace HB := Aside0.mk hb; replace HI0 := Aside0.mk hi; clear hb hk hi) | ((with_reducible refine gk_ 27 ?_); refine gl_ 15 Try.func27 #[.pointer (some ⟨g, 0, none⟩), .int .i64 2] ?_; (with_reducible refine (spec_l1Below.calls g s0_0 t614 t615 2 t616 t617 t618 w0 _ ?side1 ?side2 A6.out).mono ?_); (case side1 => repeat (first | (with_reducible first | exact HI0.out | apply IsS84.alloc | apply IsS84.drewN | apply IsS84.drew | apply IsS84.set_1 | apply IsS84.set_2 | refine IsS84.far ?_ NB0_601.out _) | exact HI0.out)); (case side2 => repeat (first | (with_reducible first | exact HB.out | apply below_alloc | apply pw_below_drewN | apply below_drew1 | refine below_set ?_ (IsS84.ge HI0.out) | refine below_set ?_ GE601.out) | exact HB.out)); rintro e w80 ⟨rfl, hi, hb, hk⟩; refine ⟨_, rfl, ?_⟩; replace BK601 := Aside0.mk (KeepBut.blk hk (g' := gb601) (o := .cells #[.int .i64 0, .int .i64 0, .int .i64 0, .int .i64 0, .string (⟨#[]⟩ : ByteArray), .int .i64 0, .slice none 0 0] 28 (0, 0)) (kb_ BK601.out) NB601_0.out (by simp)); replace HO609 := Aside0.mk (Kd.R_mono (Kd.R_keep (IsS84.apart (show IsS84 w0 _ g s0_0 t614 t615 from by repeat (first | (with_reducible first | exact HI0.out | apply IsS84.alloc | apply IsS84.drewN | apply IsS84.drew | apply IsS84.set_1 | apply IsS84.set_2 | refine IsS84.far ?_ NB0_601.out _) | exact HI0.out)) (kr_ HO609.out) (by decide)) hk (fun _ h => h.2)) (fun _ h => h.1)); replace HK := Aside0.mk (KeepBut.trans (by repeat (first | (with_reducible first | exact HK.out | apply KeepBut.set_ | apply keep_drewN | apply keep_drew | apply keep_alloc | refine keep_far ?_ GW601.out _) | exact HK.out)) hk (.inl rfl)); replace HB := Aside0.mk hb; replace HI0 := Aside0.mk hi; clear hb hk hi; obtain ⟨Ao81, co81, eo81⟩ := Kd.R_slice HO609.out; subst eo81) | ((with_reducible refine gq_ 42 18 ?_); refine gc_ 18 Try.func42 (spec_HeadOf.calls k _ _ y607 t619 t620 _ (ch_ HO609) (cl_ HO609) A7.out) ?_; rintro e w82 ⟨rfl, hb⟩; refine ⟨_, rfl, ?_⟩; replace HO609 := rb_ HO609 hb; replace BK601 := kl_ BK601 hb; replace HK := Aside0.mk (KeepBut.trans (by repeat (first | (with_reducible first | exact HK.out | apply KeepBut.set_ | apply keep_drewN | apply keep_drew | apply keep_alloc | refine keep_far ?_ GW601.out _) | exact HK.out)) (KeepBut.of_below hb g none) (.inl rfl)); replace HB := Aside0.mk (below_step (bs2_ HB (IsS84.ge HI0.out) GE601.out) hb); replace HI0 := Aside0.mk (IsS84.below (by repeat (first | (with_reducible first | exact HI0.out | apply IsS84.alloc | apply IsS84.drewN | apply IsS84.drew | apply IsS84.set_1 | apply IsS84.set_2 | refine IsS84.far ?_ NB0_601.out _) | exact HI0.out)) hb); clear hb) | ((with_reducible refine gd_ 4 ?_); refine bx_ 4 28 #[.int .i64 0, .int .i64 0, .int .i64 0, .int .i64 0, .string (⟨#[]⟩ : ByteArray), .int .i64 0, .slice none 0 0] ?_; intro gb621 hg w83 hbox hb; replace HO609 := rb_ HO609 hb; replace HB := Aside0.mk (below_step (bs2_ HB (IsS84.ge HI0.out) GE601.out) hb); have BK621 := Aside0.mk hbox; have GW621 := Aside0.mk ((by rw [hg]; exact (keep_size (w := w) (g := g) (row := none) (by repeat (first | (with_reducible first | exact HK.out | apply KeepBut.set_ | apply keep_drewN | apply keep_drew | apply keep_alloc | refine keep_far ?_ GW601.out _) | exact HK.out))) : w.heap.size ≤ gb621)); have GE621 := Aside0.mk ((Nat.le_trans HW0.out (by rw [hg]; exact (keep_size (w := w) (g := g) (row := none) (by repeat (first | (with_reducible first | exact HK.out | apply KeepBut.set_ | apply keep_drewN | apply keep_drew | apply keep_alloc | refine keep_far ?_ GW601.out _) | exact HK.out))) : w.heap.size ≤ gb621) : w0.heap.size ≤ gb621)); replace HK := Aside0.mk (KeepBut.trans (by repeat (first | (with_reducible first | exact HK.out | apply KeepBut.set_ | apply keep_drewN | apply keep_drew | apply keep_alloc | refine keep_far ?_ GW601.out _) | exact HK.out)) (KeepBut.of_below hb g none) (.inl rfl)); have NB601_621 := Aside0.mk ((by rw [hg]; exact Nat.ne_of_lt (blk_lt (kb_ BK601.out)) : gb601 ≠ gb621)); have NB621_601 := Aside0.mk ((by rw [hg]; exact Nat.ne_of_gt (blk_lt (kb_ BK601.out)) : gb621 ≠ gb601)); replace BK601 := kl_ BK601 hb; have NB0_621 := Aside0.mk ((by rw [hg]; exact Nat.ne_of_lt (IsS84.lt (show IsS84 w0 _ g s0_0 t617 t618 from by repeat (first | (with_reducible first | exact HI0.out | apply IsS84.alloc | apply IsS84.drewN | apply IsS84.drew | apply IsS84.set_1 | apply IsS84.set_2 | refine IsS84.far ?_ NB0_601.out _) | exact HI0.out))) : g ≠ gb621)); have NB621_0 := Aside0.mk ((by rw [hg]; exact Nat.ne_of_gt (IsS84.lt (show IsS84 w0 _ g s0_0 t617 t618 from by repeat (first | (with_reducible first | exact HI0.out | apply IsS84.alloc | apply IsS84.drewN | apply IsS84.drew | apply IsS84.set_1 | apply IsS84.set_2 | refine IsS84.far ?_ NB0_601.out _) | exact HI0.out))) : gb621 ≠ g)); replace HI0 := Aside0.mk (IsS84.below (by repeat (first | (with_reducible first | exact HI0.out | apply IsS84.alloc | apply IsS84.drewN | apply IsS84.drew | apply IsS84.set_1 | apply IsS84.set_2 | refine IsS84.far ?_ NB0_601.out _) | exact HI0.out)) hb); clear hb hbox hg; have hnb84 := NB621_601.out; have hnc84 := NB601_621.out; have hnb85 := NB621_0.out; have hnc85 := NB0_621.out; have hcz86_0 := bc0_ BK621.out; have hcz86_1 := bc1_ BK621.out; have hcz86_2 := bc2_ BK621.out; have hcz86_3 := bc3_ BK621.out; have hcz86_4 := bc4_ BK621.out; have hcz86_5 := bc5_ BK621.out; have hcz86_6 := bc6_ BK621.out; have hfz86_0 := blk_frozen BK621.out 0; have hfz86_1 := blk_frozen BK621.out 1; have hfz86_2 := blk_frozen BK621.out 2; have hfz86_3 := blk_frozen BK621.out 3; have hfz86_4 := blk_frozen BK621.out 4; have hfz86_5 := blk_frozen BK621.out 5; have hfz86_6 := blk_frozen BK621.out 6) | ((with_reducible refine gk_ 27 ?_); refine gl_ 26 Try.func27 #[.pointer (some ⟨g, 0, none⟩), .int .i64 (y607.length : Int)] ?_; (with_reducible refine (spec_l1Below.calls g s0_0 t617 t618 (y607.length : Int) t629 t630 t631 w0 _ ?side1 ?side2 A47.out).mono ?_); (case side1 => repeat (first | (with_reducible first | exact HI0.out | apply IsS84.alloc | apply IsS84.drewN | apply IsS84.drew | apply IsS84.set_1 | apply IsS84.set_2 | refine IsS84.far ?_ NB0_601.out _ | refine IsS84.far ?_ NB0_621.out _) | exact HI0.out)); (case side2 => repeat (first | (with_reducible first | exact HB.out | apply below_alloc | apply pw_below_drewN | apply below_drew1 | refine below_set ?_ (IsS84.ge HI0.out) | refine below_set ?_ GE601.out | refine below_set ?_ GE621.out) | exact HB.out)); rintro e w87 ⟨rfl, hi, hb, hk⟩; refine ⟨_, rfl, ?_⟩; replace BK601 := Aside0.mk (KeepBut.blk hk (g' := gb601) (o := .cells #[.int .i64 0, .int .i64 0, .int .i64 0, .int .i64 0, .string (⟨#[]⟩ : ByteArray), .int .i64 0, .slice none 0 0] 28 (0, 0)) (kq_ BK601) NB601_0.out (by simp)); replace HO609 := Aside0.mk (Kd.R_mono (Kd.R_keep (IsS84.apart (show IsS84 w0 _ g s0_0 t617 t618 from by repeat (first | (with_reducible first | exact HI0.out | apply IsS84.alloc | apply IsS84.drewN | apply IsS84.drew | apply IsS84.set_1 | apply IsS84.set_2 | refine IsS84.far ?_ NB0_601.out _ | refine IsS84.far ?_ NB0_621.out _) | exact HI0.out)) (kf_ HO609 BK621) (by decide)) hk (fun _ h => h.2)) (fun _ h => h.1)); replace BK621 := Aside0.mk (KeepBut.blk hk (g' := gb621) (o := .cells #[.int .i64 (wrap64 (1 + t610)), .int .i64 t613, .int .i64 (wrap64 (4 + t616)), .int .i64 t619, .string t620, .int .i64 0, .slice none 0 0] 28 (0, 0)) (kq_ BK621) NB621_0.out (by simp)); replace HK := Aside0.mk (KeepBut.trans (by repeat (first | (with_reducible first | exact HK.out | apply KeepBut.set_ | apply keep_drewN | apply keep_drew | apply keep_alloc | refine keep_far ?_ GW601.out _ | refine keep_far ?_ GW621.out _) | exact HK.out)) hk (.inl rfl)); replace HB := Aside0.mk hb; replace HI0 := Aside0.mk hi; clear hb hk hi; have hcz88_0 := bc0_ BK621.out; have hcz88_1 := bc1_ BK621.out; have hcz88_2 := bc2_ BK621.out; have hcz88_3 := bc3_ BK621.out; have hcz88_4 := bc4_ BK621.out; have hcz88_5 := bc5_ BK621.out; have hcz88_6 := bc6_ BK621.out; have hfz88_0 := blk_frozen BK621.out 0; have hfz88_1 := blk_frozen BK621.out 1; have hfz88_2 := blk_frozen BK621.out 2; have hfz88_3 := blk_frozen BK621.out 3; have hfz88_4 := blk_frozen BK621.out 4; have hfz88_5 := blk_frozen BK621.out 5; have hfz88_6 := blk_frozen BK621.out 6; have hnb89 := NB601_0.out; have hnc89 := NB0_601.out; have hcz90_0 := bc0_ BK601.out; have hcz90_1 := bc1_ BK601.out; have hcz90_2 := bc2_ BK601.out; have hcz90_3 := bc3_ BK601.out; have hcz90_4 := bc4_ BK601.out; have hcz90_5 := bc5_ BK601.out; have hcz90_6 := bc6_ BK601.out; have hfz90_0 := blk_frozen BK601.out 0; have hfz90_1 := blk_frozen BK601.out 1; have hfz90_2 := blk_frozen BK601.out 2; have hfz90_3 := blk_frozen BK601.out 3; have hfz90_4 := blk_frozen BK601.out 4; have hfz90_5 := blk_frozen BK601.out 5; have hfz90_6 := blk_frozen BK601.out 6))
   refine bodyPost_ret (results_cell_row rfl _ _ gb601 28 #[.int .i64 (wrap64 (1 + t610)), .int .i64 t613, .int .i64 (wrap64 (4 + t616)), .int .i64 t619, .string t620, .int .i64 t629, .slice none 0 0] (0, 0) _ rfl (by exact kq_ BK601) Try.underlying28 rfl (by kernel_rfl)) rfl ?_
   exact ⟨_, e2_, by first | exact Kd.R_nil _ _ _ _ _ | exact Kd.N_nil _ _ _ _ _ | exact Kd.V_nil _ _ _ _ _ | exact Kd.Q_nil _ _ _ _ _ | exact Kd.S_nil _ _ _ _ _, by repeat (first | (with_reducible first | exact HI0.out | apply IsS84.alloc | apply IsS84.drewN | apply IsS84.drew | apply IsS84.set_1 | apply IsS84.set_2 | refine IsS84.far ?_ NB0_601.out _ | refine IsS84.far ?_ NB0_621.out _) | exact HI0.out), by repeat (first | (with_reducible first | exact HB.out | apply below_alloc | apply pw_below_drewN | apply below_drew1 | refine below_set ?_ (IsS84.ge HI0.out) | refine below_set ?_ GE601.out | refine below_set ?_ GE621.out) | exact HB.out), by repeat (first | (with_reducible first | exact HK.out | apply KeepBut.set_ | apply keep_drewN | apply keep_drew | apply keep_alloc | refine keep_far ?_ GW601.out _ | refine keep_far ?_ GW621.out _) | exact HK.out)⟩
end Go.Proofs.Ytnlndmoecljicaa.Q
end

section
-- Written by a program of this session (wip/tools/pp.sh) over the print of the kit.
namespace Go.Proofs.Ytnlndmoecljicaa.Q
open Go.RowKit Go.Proofs.YtnlndmoecljicaaW.PrintWords Go.Proofs.YtnlndmoecljicaaW.PrintLast Go.Proofs.YtnlndmoecljicaaW.PrintMore
attribute [local go_sem] max2_int min2_int max_two min_two max_three min_three max_four min_four   -- for this text's walks alone
set_option linter.unusedVariables false
set_option linter.unusedSimpArgs false
def spec_l13Copy.f (a0_0 : Int) (a0_1 : Int) (a0_2 : Int) (a0_3 : Int) (a0_4 : ByteArray) (a0_5 : Int) (l0_6 : List ByteArray) : Option (Int × Int × Int × Int × ByteArray × Int × List ByteArray) := (some (([] : List ByteArray) : List ByteArray)).bind fun y603 => (if y603.length + l0_6.length < 8796093022208 then (some (a0_0, a0_1, a0_2, a0_3, a0_4, a0_5, (y603 ++ l0_6))) else (none))
set_option maxHeartbeats 8000000 in
set_option maxRecDepth 100000 in
theorem spec_l13Copy.calls (a0_0 : Int) (a0_1 : Int) (a0_2 : Int) (a0_3 : Int) (a0_4 : ByteArray) (a0_5 : Int) (A0_6 : Option Addr) (c0_6 : Nat) (l0_6 : List ByteArray) (r1 : Int) (r2 : Int) (r3 : Int) (r4 : Int) (r5 : ByteArray) (r6 : Int) (r7 : List ByteArray) (w : World) (hr0_6 : Kd.C Kd.string w A0_6 l0_6.length l0_6) (hc0_6 : l0_6.length ≤ c0_6) (h : spec_l13Copy.f a0_0 a0_1 a0_2 a0_3 a0_4 a0_5 l0_6 = some (r1, r2, r3, r4, r5, r6, r7)) :
  Calls Try.prog 81 #[.agg #[.int .i64 a0_0, .int .i64 a0_1, .int .i64 a0_2, .int .i64 a0_3, .string a0_4, .int .i64 a0_5, .slice A0_6 l0_6.length c0_6]] w fun e w' => ∃ v6_ : Value, e = .returned (.agg #[.int .i64 r1, .int .i64 r2, .int .i64 r3, .int .i64 r4, .string r5, .int .i64 r6, v6_]) ∧ Kd.R Kd.string 9 w' w.heap.size (fun _ => True) v6_ r7 ∧ Below w.heap.size w w' := by
 have hu28 := Try.underlying28
 have HR0_6 := Aside0.mk hr0_6
 have HC0_6 := Aside0.mk hc0_6
 clear hr0_6 hc0_6
 have HB := Aside0.mk (Below.refl w.heap.size w)
 have H : ((some (([] : List ByteArray) : List ByteArray)).bind fun y603 => (if y603.length + l0_6.length < 8796093022208 then (some (a0_0, a0_1, a0_2, a0_3, a0_4, a0_5, (y603 ++ l0_6))) else (none))) = some (r1, r2, r3, r4, r5, r6, r7) := h
 clear h
 obtain ⟨y603, Ny603, H⟩ := sb_ (([] : List ByteArray)) H
 replace H := ip_ H; obtain ⟨c2, H⟩ := H
 have LMc2 := Aside0.mk c2
 clear c2
 obtain ⟨y606, hy606⟩ : ∃ y_ : List ByteArray, y_ = (y603 ++ l0_6) := ⟨_, rfl⟩
 replace H : (some (a0_0, a0_1, a0_2, a0_3, a0_4, a0_5, y606)) = some (r1, r2, r3, r4, r5, r6, r7) := yh_ hy606 H
 have Ny606 := Aside0.mk hy606
 clear hy606
 replace H := so7_ H; obtain ⟨rfl, rfl, rfl, rfl, rfl, rfl, rfl⟩ := H
 go_enter Try.func81, Try.ntmps81
 go_wp2_with (first | ((with_reducible refine gd_ 1 ?_); refine bx_ 1 28 #[.int .i64 a0_0, .int .i64 a0_1, .int .i64 a0_2, .int .i64 a0_3, .string a0_4, .int .i64 a0_5, .slice A0_6 l0_6.length c0_6] ?_; intro gb601 hg w3 hbox hb; have BK601 := Aside0.mk hbox; have GW601 := gg_ hg HB; have GE601 := GW601; replace HB := ss_ HB hb; clear hb hbox hg) | ((with_reducible refine gd_ 2 ?_); refine bx_ 2 28 #[.int .i64 0, .int .i64 0, .int .i64 0, .int .i64 0, .string (⟨#[]⟩ : ByteArray), .int .i64 0, .slice none 0 0] ?_; intro gb602 hg w4 hbox hb; have BK602 := Aside0.mk hbox; have GW602 := gg_ hg HB; have GE602 := GW602; replace HB := ss_ HB hb; have NB601_602 := nla_ hg BK601; have NB602_601 := nga_ hg BK601; replace BK601 := kl_ BK601 hb; clear hb hbox hg) | ((with_reducible refine gd_ 3 ?_); refine rl_ Kd.string 9 3 ([] : List ByteArray) [] ?_; intro v604 w5 ho6 hb hg_ hnew_; clear hg_ hnew_; (first | rw [← Ny603.out] at ho6 | (simp only [Int.reduceToNat] at ho6; rw [← Ny603.out] at ho6)); have HO605 := Aside0.mk (Kd.R_lower ho6 (sz_ HB)); replace BK601 := kl_ BK601 hb; replace BK602 := kl_ BK602 hb; replace HB := ss_ HB hb; clear hb ho6; have hnb7 := NB601_602.out; have hnc7 := NB602_601.out; have hcz8_0 := bc0_ BK601.out; have hcz8_1 := bc1_ BK601.out; have hcz8_2 := bc2_ BK601.out; have hcz8_3 := bc3_ BK601.out; have hcz8_4 := bc4_ BK601.out; have hcz8_5 := bc5_ BK601.out; have hcz8_6 := bc6_ BK601.out; have hfz8_0 := blk_frozen BK601.out 0; have hfz8_1 := blk_frozen BK601.out 1; have hfz8_2 := blk_frozen BK601.out 2; have hfz8_3 := blk_frozen BK601.out 3; have hfz8_4 := blk_frozen BK601.out 4; have hfz8_5 := blk_frozen BK601.out 5; have hfz8_6 := blk_frozen BK601.out 6) | ((with_reducible refine gate_builtin (b := .append) (xs := #[.tmp 3, .tmp 5]) rfl ?_); at_builtin; refine Kd.R_append_rows Kd.string (w0 := w) w.heap.size rfl (.tmp 3) (.tmp 5) 26 9 (.string ⟨#[]⟩) 16 rfl Try.underlying26 info9 rfl (by decide) (by omega) v604 y603 l0_6 _ _ _ (fun _ => True) (fun _ => False) rfl rfl ?aO ?aR (fun _ _ h => h) (fun _ h => h.elim) ?aF ?aB ?aS ?aL ?_; (case aR => exact cb_ HR0_6 HB); (case aB => exact (bw_ HB)); (case aF => exact (fun _ _ => trivial)); (case aO => exact (kr_ HO605.out)); (case aS => exact (sz_ HB)); (case aL => have := LMc2.out; omega); intro v607 w9 ho hb hg hat; rw [← Ny606.out] at ho; replace BK601 := kg_ BK601 HO605 hg; replace BK602 := kg_ BK602 HO605 hg; replace HB := Aside0.mk hb; have HO608 := Aside0.mk ho; clear HO605; clear ho hb hg hat; obtain ⟨Ao10, co10, eo10⟩ := Kd.R_slice HO608.out; subst eo10; have hcz11_0 := bc0_ BK601.out; have hcz11_1 := bc1_ BK601.out; have hcz11_2 := bc2_ BK601.out; have hcz11_3 := bc3_ BK601.out; have hcz11_4 := bc4_ BK601.out; have hcz11_5 := bc5_ BK601.out; have hcz11_6 := bc6_ BK601.out; have hfz11_0 := blk_frozen BK601.out 0; have hfz11_1 := blk_frozen BK601.out 1; have hfz11_2 := blk_frozen BK601.out 2; have hfz11_3 := blk_frozen BK601.out 3; have hfz11_4 := blk_frozen BK601.out 4; have hfz11_5 := blk_frozen BK601.out 5; have hfz11_6 := blk_frozen BK601.out 6; have hcz12_0 := bc0_ BK602.out; have hcz12_1 := bc1_ BK602.out; have hcz12_2 := bc2_ BK602.out; have hcz12_3 := bc3_ BK602.out; have hcz12_4 := bc4_ BK602.out; have hcz12_5 := bc5_ BK602.out; have hcz12_6 := bc6_ BK602.out; have hfz12_0 := blk_frozen BK602.out 0; have hfz12_1 := blk_frozen BK602.out 1; have hfz12_2 := blk_frozen BK602.out 2; have hfz12_3 := blk_frozen BK602.out 3; have hfz12_4 := blk_frozen BK602.out 4; have hfz12_5 := blk_frozen BK602.out 5; have hfz12_6 := blk_frozen BK602.out 6))
 refine bodyPost_ret (results_cell_row rfl _ _ gb602 28 #[.int .i64 a0_0, .int .i64 a0_1, .int .i64 a0_2, .int .i64 a0_3, .string a0_4, .int .i64 a0_5, .slice Ao10 y606.length co10] (0, 0) _ rfl (by exact kq_ BK602) Try.underlying28 rfl (by kernel_rfl)) rfl ?_
 exact ⟨_, e2_, by (with_reducible repeat (first | apply Kd.R_alloc | apply Kd.R_drewN | apply Kd.R_drew)); exact Kd.R_mono (Kd.R_far (p := ⟨gb602, 6, none⟩) (Kd.R_far (p := ⟨gb602, 5, none⟩) (Kd.R_far (p := ⟨gb602, 4, none⟩) (Kd.R_far (p := ⟨gb602, 3, none⟩) (Kd.R_far (p := ⟨gb602, 2, none⟩) (Kd.R_far (p := ⟨gb602, 1, none⟩) (Kd.R_far (p := ⟨gb602, 0, none⟩) (Kd.R_far (p := ⟨gb601, 6, none⟩) (Kd.R_types (Kd.R_types HO608.out BK601.out (by decide)) BK602.out (by decide)) (fun _ hk => hk.1.2) (.slice Ao10 y606.length co10)) (fun _ hk => hk.2) (.int .i64 a0_0)) (fun _ hk => hk.2) (.int .i64 a0_1)) (fun _ hk => hk.2) (.int .i64 a0_2)) (fun _ hk => hk.2) (.int .i64 a0_3)) (fun _ hk => hk.2) (.string a0_4)) (fun _ hk => hk.2) (.int .i64 a0_5)) (fun _ hk => hk.2) (.slice Ao10 y606.length co10)) (fun _ hk => trivial), bw_ HB⟩
end Go.Proofs.Ytnlndmoecljicaa.Q
end
