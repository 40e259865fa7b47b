-- Joined and shortened by a program of this session (wip/tools/shakecopy.py): the words of the print, texts of pp.sh and of mine.
import Derived.Test.YtnlndmoecljicaaGreatKFnExactAskFor4
import Derived.Outline
import Derived.Lib.AppendStr
section
namespace Go.Proofs.YtnlndmoecljicaaGreat.Q
open Go.RowKit Go.Proofs.YtnlndmoecljicaaGreat.B Go.Proofs.YtnlndmoecljicaaGreatW.PrintWords Go.Proofs.YtnlndmoecljicaaGreatW.PrintMore
set_option linter.unusedVariables false
set_option linter.unusedSimpArgs false
def U (x : Int) : Prop := 0 ≤ x ∧ x < 4294967296
theorem U_bits (op : BinOp) (a b : Int) : U (Go.bits op .u32 a b) := by
 unfold Go.bits U
 rw [IntKind.wrap_u32]
 omega
theorem U_mod (x : Int) : U (x % 4294967296) := by unfold U; omega
theorem wraps63 (n : Int) (h₀ : 0 ≤ n) (h₁ : n < 2 ^ 63) : IntKind.i64.wrap n = n := by rw [IntKind.wrap_i64]; omega
theorem wraps32 (n : Int) (h₀ : 0 ≤ n) (h₁ : n < 2 ^ 32) : IntKind.u32.wrap n = n := by rw [IntKind.wrap_u32]; omega
theorem bits_xor_nat (k : IntKind) (j : Nat) (hj : j ≤ k.bits) (hk : ∀ n : Int, 0 ≤ n → n < 2 ^ j → k.wrap n = n) (a b : Nat) (ha : a < 2 ^ j) (hb : b < 2 ^ j) : Go.bits .xor k a b = ((a ^^^ b : Nat) : Int) := by
 have hp : 2 ^ j ≤ 2 ^ k.bits := Nat.pow_le_pow_right (by decide) hj
 have ha' : a % 2 ^ k.bits = a := Nat.mod_eq_of_lt (Nat.lt_of_lt_of_le ha hp)
 have hb' : b % 2 ^ k.bits = b := Nat.mod_eq_of_lt (Nat.lt_of_lt_of_le hb hp)
 have cast : ∀ n : Nat, n < 2 ^ j → ((n : Nat) : Int) < 2 ^ j := fun n h => by exact_mod_cast h
 simp only [Go.bits, BitVec.ofInt_natCast, BitVec.toNat_xor, BitVec.toNat_ofNat, ha', hb']
 exact hk _ (Int.natCast_nonneg _) (cast _ (Nat.xor_lt_two_pow ha hb))
theorem xor_eq {a b : Int} (ha : U a) (hb : U b) : Go.bits .xor .i64 a b = Go.bits .xor .u32 a b := by
 obtain ⟨a, rfl⟩ := Int.eq_ofNat_of_zero_le ha.1
 obtain ⟨b, rfl⟩ := Int.eq_ofNat_of_zero_le hb.1
 have h1 := ha.2
 have h2 := hb.2
 rw [bits_xor_nat .i64 63 (by decide) wraps63 a b (by omega) (by omega), bits_xor_nat .u32 32 (by decide) wraps32 a b (by omega) (by omega)]
theorem and_eq {a b : Int} (ha : U a) (hb : U b) : Go.bits .and .i64 a b = Go.bits .and .u32 a b := by
 obtain ⟨a, rfl⟩ := Int.eq_ofNat_of_zero_le ha.1
 obtain ⟨b, rfl⟩ := Int.eq_ofNat_of_zero_le hb.1
 have h1 := ha.2
 have h2 := hb.2
 rw [(bits_nat .i64 63 (by decide) wraps63 a b (by omega) (by omega)).1, (bits_nat .u32 32 (by decide) wraps32 a b (by omega) (by omega)).1]
theorem or_eq {a b : Int} (ha : U a) (hb : U b) : Go.bits .or .i64 a b = Go.bits .or .u32 a b := by
 obtain ⟨a, rfl⟩ := Int.eq_ofNat_of_zero_le ha.1
 obtain ⟨b, rfl⟩ := Int.eq_ofNat_of_zero_le hb.1
 have h1 := ha.2
 have h2 := hb.2
 rw [(bits_nat .i64 63 (by decide) wraps63 a b (by omega) (by omega)).2, (bits_nat .u32 32 (by decide) wraps32 a b (by omega) (by omega)).2]
theorem mask32 {x : Int} (h0 : 0 ≤ x) (h1 : x < 9223372036854775808) : Go.bits .and .i64 x 4294967295 = x % 4294967296 :=
 bits_mask .i64 63 (by decide) wraps63 32 (by decide) x h0 h1
theorem xor3_eq {a b c : Int} (ha : U a) (hb : U b) (hc : U c) : Go.bits .xor .i64 (Go.bits .xor .i64 a b) c = Go.bits .xor .u32 (Go.bits .xor .u32 a b) c := by
 rw [xor_eq ha hb, xor_eq (U_bits _ _ _) hc]
theorem U_rotr (a : Int) (n : Nat) : U (rotr a n) := U_bits _ _ _
theorem turn_eq {a : Int} (n : Nat) (ha : U a) (h2 : 2 ≤ n) (hn : n ≤ 32) (i1 : IntKind.u64.wrap (n : Int) = n) (i2 : IntKind.u64.wrap (wrap64 (32 - (n : Int))) = 32 - (n : Int)) : spec_l2Turn.f a n = some (rotr a n) := by
 unfold spec_l2Turn.f rotr
 rw [i1, i2, if_pos (by omega), if_pos (by omega)]
 congr 1
 obtain ⟨a, rfl⟩ := Int.eq_ofNat_of_zero_le ha.1
 have h1 : a < 2 ^ 32 := by have := ha.2; omega
 have hsub : (32 - (n : Int)).toNat = 32 - n := by omega
 have e1 : shr .i64 (a : Int) n = ((a / 2 ^ n : Nat) : Int) := by
  unfold shr
  rw [show min (n : Int).toNat IntKind.i64.bits = n from by simp [IntKind.bits] <;> omega]
  simp
 have e2 : shr .u32 (a : Int) n = ((a / 2 ^ n : Nat) : Int) := by
  unfold shr
  rw [show min (n : Int).toNat IntKind.u32.bits = n from by simp [IntKind.bits] <;> omega]
  simp
 have hpow : a * 2 ^ (32 - n) < 2 ^ 62 := by
  have : 2 ^ (32 - n) ≤ 2 ^ 30 := Nat.pow_le_pow_right (by decide) (by omega)
  calc a * 2 ^ (32 - n) ≤ a * 2 ^ 30 := Nat.mul_le_mul_left _ this
   _ < 2 ^ 32 * 2 ^ 30 := Nat.mul_lt_mul_of_pos_right h1 (by decide)
   _ = 2 ^ 62 := by decide
 have hcast : ((a : Int) * 2 ^ (32 - n)) = ((a * 2 ^ (32 - n) : Nat) : Int) := by simp
 have e3 : shl .i64 (a : Int) (32 - (n : Int)) = ((a * 2 ^ (32 - n) : Nat) : Int) := by
  unfold shl
  rw [show min (32 - (n : Int)).toNat IntKind.i64.bits = 32 - n from by simp [IntKind.bits] <;> omega, hcast, wraps63 _ (by omega) (by omega)]
 have e4 : shl .u32 (a : Int) (32 - (n : Int)) = ((a * 2 ^ (32 - n) % 2 ^ 32 : Nat) : Int) := by
  unfold shl
  rw [show min (32 - (n : Int)).toNat IntKind.u32.bits = 32 - n from by simp [IntKind.bits] <;> omega, hcast, IntKind.wrap_u32]
  omega
 have hd : a / 2 ^ n < 2 ^ 32 := Nat.lt_of_le_of_lt (Nat.div_le_self _ _) h1
 rw [e1, e2, e3, e4, (bits_nat .i64 63 (by decide) wraps63 _ _ (by omega) (by omega)).2]
 have hor : a / 2 ^ n ||| a * 2 ^ (32 - n) < 2 ^ 63 := Nat.or_lt_two_pow (by omega) (by omega)
 rw [mask32 (by omega) (by omega), (bits_nat .u32 32 (by decide) wraps32 _ _ (Nat.mod_lt _ (by decide)) hd).2]
 have hm : (a / 2 ^ n ||| a * 2 ^ (32 - n)) % 2 ^ 32 = a * 2 ^ (32 - n) % 2 ^ 32 ||| a / 2 ^ n := by
  rw [Nat.or_mod_two_pow, Nat.mod_eq_of_lt hd, Nat.or_comm]
 rw [← hm]
 simp
theorem turn2 {a : Int} (ha : U a) : spec_l2Turn.f a 2 = some (rotr a 2) := turn_eq 2 ha (by decide) (by decide) (by decide +kernel) (by decide +kernel)
theorem turn6 {a : Int} (ha : U a) : spec_l2Turn.f a 6 = some (rotr a 6) := turn_eq 6 ha (by decide) (by decide) (by decide +kernel) (by decide +kernel)
theorem turn7 {a : Int} (ha : U a) : spec_l2Turn.f a 7 = some (rotr a 7) := turn_eq 7 ha (by decide) (by decide) (by decide +kernel) (by decide +kernel)
theorem turn11 {a : Int} (ha : U a) : spec_l2Turn.f a 11 = some (rotr a 11) := turn_eq 11 ha (by decide) (by decide) (by decide +kernel) (by decide +kernel)
theorem turn13 {a : Int} (ha : U a) : spec_l2Turn.f a 13 = some (rotr a 13) := turn_eq 13 ha (by decide) (by decide) (by decide +kernel) (by decide +kernel)
theorem turn17 {a : Int} (ha : U a) : spec_l2Turn.f a 17 = some (rotr a 17) := turn_eq 17 ha (by decide) (by decide) (by decide +kernel) (by decide +kernel)
theorem turn18 {a : Int} (ha : U a) : spec_l2Turn.f a 18 = some (rotr a 18) := turn_eq 18 ha (by decide) (by decide) (by decide +kernel) (by decide +kernel)
theorem turn19 {a : Int} (ha : U a) : spec_l2Turn.f a 19 = some (rotr a 19) := turn_eq 19 ha (by decide) (by decide) (by decide +kernel) (by decide +kernel)
theorem turn22 {a : Int} (ha : U a) : spec_l2Turn.f a 22 = some (rotr a 22) := turn_eq 22 ha (by decide) (by decide) (by decide +kernel) (by decide +kernel)
theorem turn25 {a : Int} (ha : U a) : spec_l2Turn.f a 25 = some (rotr a 25) := turn_eq 25 ha (by decide) (by decide) (by decide +kernel) (by decide +kernel)
theorem be_eq {b0 b1 b2 b3 : Int} (h0 : 0 ≤ b0 ∧ b0 ≤ 255) (h1 : 0 ≤ b1 ∧ b1 ≤ 255) (h2 : 0 ≤ b2 ∧ b2 ≤ 255) (h3 : 0 ≤ b3 ∧ b3 ≤ 255) :
  Go.bits .or .i64 (Go.bits .or .i64 (Go.bits .or .i64 (wrap64 (wrap64 b0 * 16777216)) (wrap64 (wrap64 b1 * 65536))) (wrap64 (wrap64 b2 * 256))) (wrap64 b3) =
  Go.bits .or .u32 (Go.bits .or .u32 (Go.bits .or .u32 (b0 % 4294967296 * 16777216 % 4294967296) (b1 % 4294967296 * 65536 % 4294967296)) (b2 % 4294967296 * 256 % 4294967296)) (b3 % 4294967296) := by
 have e0 : b0 % 4294967296 * 16777216 % 4294967296 = wrap64 (wrap64 b0 * 16777216) := by rw [w64 (x := b0) (by omega) (by omega), w64 (by omega) (by omega)]; omega
 have e1 : b1 % 4294967296 * 65536 % 4294967296 = wrap64 (wrap64 b1 * 65536) := by rw [w64 (x := b1) (by omega) (by omega), w64 (by omega) (by omega)]; omega
 have e2 : b2 % 4294967296 * 256 % 4294967296 = wrap64 (wrap64 b2 * 256) := by rw [w64 (x := b2) (by omega) (by omega), w64 (by omega) (by omega)]; omega
 have e3 : b3 % 4294967296 = wrap64 b3 := by rw [w64 (x := b3) (by omega) (by omega)]; omega
 rw [← e0, ← e1, ← e2, ← e3, or_eq (U_mod _) (U_mod _), or_eq (U_bits _ _ _) (U_mod _), or_eq (U_bits _ _ _) (U_mod _)]
theorem getD_range {p : Int → Prop} {bs : List Int} (h : ∀ x ∈ bs, p x) (h0 : p 0) (i : Nat) : p (bs.getD i 0) := by
 rw [List.getD_eq_getElem?_getD]
 rcases hx : bs[i]? with _ | x
 ·exact h0
 ·exact h x (List.mem_of_getElem? hx)
theorem rd_range {p : Int → Prop} {bs : List Int} (h : ∀ x ∈ bs, p x) (h0 : p 0) (i : Int) : p (rd bs i) := getD_range h h0 _
theorem U0 : U 0 := by unfold U; omega
theorem wAt_U (bs : List Int) (i : Nat) : ∀ x ∈ wAt bs i, U x := by
 induction i with
 | zero =>
  intro x hx
  simp [wAt] at hx
  rw [hx]
  exact U0
 | succ i ih =>
  intro x hx
  simp only [wAt] at hx
  rcases List.mem_or_eq_of_mem_set hx with hx | rfl
  ·exact ih x hx
  ·split
   ·exact U_bits _ _ _
   ·exact U_mod _
theorem rd_take {l : List Int} {i j : Nat} (h : j < i) : rd (l.take i) (j : Int) = l.getD j 0 := by
 unfold rd
 rw [Int.toNat_natCast, List.getD_eq_getElem?_getD, List.getElem?_take, if_pos h, List.getD_eq_getElem?_getD]
theorem wAt_next (bs : List Int) (i : Nat) (hi : i < 64) : (wAt bs (i + 1)).take (i + 1) = (wAt bs i).take i ++ [if i < 16 then be32 bs i else wMix ((wAt bs i).getD (i - 16) 0) ((wAt bs i).getD (i - 15) 0) ((wAt bs i).getD (i - 7) 0) ((wAt bs i).getD (i - 2) 0)] := by
 simp only [wAt]
 exact set_take _ (by rw [wAt_length]; exact hi)
theorem taken_length (bs : List Int) (i : Nat) (hi : i ≤ 64) : ((wAt bs i).take i).length = i := by rw [List.length_take, wAt_length]; omega
theorem mix_eq {a16 a15 a7 a2 : Int} (h16 : U a16) (h15 : U a15) (h7 : U a7) (h2 : U a2) :
  Go.bits .and .i64 (wrap64 ((wrap64 ((wrap64 (a16 + (Go.bits .xor .i64 (Go.bits .xor .i64 (rotr a15 7) (rotr a15 18)) (a15 / 8)))) + a7)) + (Go.bits .xor .i64 (Go.bits .xor .i64 (rotr a2 17) (rotr a2 19)) (a2 / 1024)))) 4294967295 = wMix a16 a15 a7 a2 := by
 have d15 : U (a15 / 8) := by unfold U at *; omega
 have d2 : U (a2 / 1024) := by unfold U at *; omega
 rw [xor3_eq (U_rotr _ _) (U_rotr _ _) d15, xor3_eq (U_rotr _ _) (U_rotr _ _) d2]
 unfold wMix
 have u1 := U_bits .xor (Go.bits .xor .u32 (rotr a15 7) (rotr a15 18)) (a15 / 8)
 have u2 := U_bits .xor (Go.bits .xor .u32 (rotr a2 17) (rotr a2 19)) (a2 / 1024)
 generalize Go.bits .xor .u32 (Go.bits .xor .u32 (rotr a15 7) (rotr a15 18)) (a15 / 8) = s1 at u1 ⊢
 generalize Go.bits .xor .u32 (Go.bits .xor .u32 (rotr a2 17) (rotr a2 19)) (a2 / 1024) = s2 at u2 ⊢
 unfold U at *
 rw [w64 (x := a16 + s1) (by omega) (by omega), w64 (x := a16 + s1 + a7) (by omega) (by omega), w64 (by omega) (by omega), mask32 (by omega) (by omega)]
theorem words_l1 (bs : List Int) : ∀ (d i : Nat), i + d = 64 → 16 ≤ i → Ev (fun k => spec_l2Words.l1 k ((wAt bs i).take i) (i : Int)) (wAt bs 64) := by
 intro d
 induction d with
 | zero =>
  intro i hi _
  obtain rfl : i = 64 := by omega
  refine Ev.step (f := fun _ => some ((wAt bs 64).take 64)) (fun k => ?_) (Ev.one (Ev.now _) (List.take_of_length_le (by rw [wAt_length]; exact Nat.le_refl _)))
  simp only [spec_l2Words.l1]
  rw [if_neg (by omega)]
 | succ d ih =>
  intro i hi h16
  have hlen := taken_length bs i (by omega)
  have u : ∀ j, U ((wAt bs i).getD j 0) := fun j => getD_range (wAt_U bs i) U0 j
  refine Ev.step (fun k => ?_) (Ev.one (ih (i + 1) (by omega) (by omega)) rfl)
  simp only [spec_l2Words.l1]
  rw [if_pos (by omega), w64 (x := (i : Int) - 15) (by omega) (by omega), w64 (x := (i : Int) - 2) (by omega) (by omega), w64 (x := (i : Int) - 16) (by omega) (by omega), w64 (x := (i : Int) - 7) (by omega) (by omega), w64 (x := (i : Int) + 1) (by omega) (by omega), if_pos (by omega), if_pos (by omega), if_pos (by omega), if_pos (by omega)]
  rw [show (i : Int) - 15 = ((i - 15 : Nat) : Int) from by omega, show (i : Int) - 2 = ((i - 2 : Nat) : Int) from by omega, show (i : Int) - 16 = ((i - 16 : Nat) : Int) from by omega, show (i : Int) - 7 = ((i - 7 : Nat) : Int) from by omega]
  rw [rd_take (by omega), rd_take (by omega), rd_take (by omega), rd_take (by omega)]
  rw [turn7 (u _), turn18 (u _), turn17 (u _), turn19 (u _)]
  simp only [Option.bind_some]
  rw [if_pos (by omega), if_pos (by omega), if_pos (by omega), if_pos (by omega), if_pos (by omega)]
  rw [mix_eq (u _) (u _) (u _) (u _), wAt_next bs i (by omega), if_neg (show ¬ i < 16 by omega)]
  rfl
theorem words_l0 (bs : List Int) (hl : bs.length = 64) (hb : ∀ x ∈ bs, 0 ≤ x ∧ x ≤ 255) : ∀ (d i : Nat), i + d = 16 → Ev (fun k => spec_l2Words.l0 k bs ((wAt bs i).take i) (i : Int)) (wAt bs 64) := by
 intro d
 induction d with
 | zero =>
  intro i hi
  obtain rfl : i = 16 := by omega
  refine Ev.step (fun k => ?_) (words_l1 bs 48 16 (by omega) (by omega))
  simp only [spec_l2Words.l0]
  rw [if_neg (by omega)]
  rfl
 | succ d ih =>
  intro i hi
  have hlen := taken_length bs i (by omega)
  have u : ∀ j, 0 ≤ rd bs j ∧ rd bs j ≤ 255 := fun j => rd_range hb (by omega) j
  refine Ev.step (fun k => ?_) (ih (i + 1) (by omega))
  simp only [spec_l2Words.l0]
  rw [if_pos (by omega), w64 (x := 4 * (i : Int)) (by omega) (by omega), w64 (x := 4 * (i : Int) + 1) (by omega) (by omega), w64 (x := 4 * (i : Int) + 2) (by omega) (by omega), w64 (x := 4 * (i : Int) + 3) (by omega) (by omega), w64 (x := (i : Int) + 1) (by omega) (by omega)]
  rw [if_pos (by omega), if_pos (by omega), if_pos (by omega), if_pos (by omega), if_pos (by omega), if_pos (by omega), if_pos (by omega), if_pos (by omega), if_pos (by omega)]
  rw [be_eq (u _) (u _) (u _) (u _), wAt_next bs i (by omega), if_pos (show i < 16 by omega)]
  rfl
theorem words_ev (bs : List Int) (hl : bs.length = 64) (hb : ∀ x ∈ bs, 0 ≤ x ∧ x ≤ 255) : Ev (fun k => spec_l2Words.f k bs) (wAt bs 64) := words_l0 bs hl hb 16 0 rfl
theorem U_step (kc wc : Int) (v : List Int) (h : ∀ x ∈ v, U x) : ∀ x ∈ turnStep kc wc v, U x := by
 unfold turnStep
 split
 ·rename_i a b c d e f g h'
  intro x hx
  simp only [List.mem_cons, List.not_mem_nil, or_false] at hx h
  rcases hx with rfl | rfl | rfl | rfl | rfl | rfl | rfl | rfl
  ·exact U_mod _
  ·exact h _ (by simp)
  ·exact h _ (by simp)
  ·exact h _ (by simp)
  ·exact U_mod _
  ·exact h _ (by simp)
  ·exact h _ (by simp)
  ·exact h _ (by simp)
 ·exact h
theorem vAt_U (ks ws hs : List Int) (h : ∀ x ∈ hs, U x) (i : Nat) : ∀ x ∈ vAt ks ws hs i, U x := by
 induction i with
 | zero => exact h
 | succ i ih => exact U_step _ _ _ ih
theorem U_max : U 4294967295 := by unfold U; omega
theorem step_eq {a b c d e f g h kc wc : Int} (ha : U a) (hb : U b) (hc : U c) (hd : U d) (he : U e) (hf : U f) (hg : U g) (hh : U h) (hk : U kc) (hw : U wc) :
  ([Go.bits .and .i64 (wrap64 ((wrap64 ((wrap64 ((wrap64 ((wrap64 (h + (Go.bits .xor .i64 (Go.bits .xor .i64 (rotr e 6) (rotr e 11)) (rotr e 25)))) + (Go.bits .xor .i64 (Go.bits .and .i64 e f) (Go.bits .and .i64 (Go.bits .xor .i64 4294967295 e) g)))) + kc)) + wc)) + (wrap64 ((Go.bits .xor .i64 (Go.bits .xor .i64 (rotr a 2) (rotr a 13)) (rotr a 22)) + (Go.bits .xor .i64 (Go.bits .xor .i64 (Go.bits .and .i64 a b) (Go.bits .and .i64 a c)) (Go.bits .and .i64 b c)))))) 4294967295, a, b, c,
   Go.bits .and .i64 (wrap64 (d + (wrap64 ((wrap64 ((wrap64 ((wrap64 (h + (Go.bits .xor .i64 (Go.bits .xor .i64 (rotr e 6) (rotr e 11)) (rotr e 25)))) + (Go.bits .xor .i64 (Go.bits .and .i64 e f) (Go.bits .and .i64 (Go.bits .xor .i64 4294967295 e) g)))) + kc)) + wc)))) 4294967295, e, f, g] : List Int) = turnStep kc wc [a, b, c, d, e, f, g, h] := by
 rw [xor3_eq (U_rotr _ _) (U_rotr _ _) (U_rotr _ _), xor3_eq (U_rotr _ _) (U_rotr _ _) (U_rotr _ _), and_eq he hf, xor_eq U_max he, and_eq (U_bits _ _ _) hg, xor_eq (U_bits _ _ _) (U_bits _ _ _), and_eq ha hb, and_eq ha hc, and_eq hb hc, xor3_eq (U_bits _ _ _) (U_bits _ _ _) (U_bits _ _ _)]
 unfold turnStep tT1 tS1 tS0 tMaj
 simp only []
 rw [show IntKind.u32.max = 4294967295 from by decide]
 have u1 := U_bits .xor (Go.bits .xor .u32 (rotr e 6) (rotr e 11)) (rotr e 25)
 have u2 := U_bits .xor (Go.bits .and .u32 e f) (Go.bits .and .u32 (Go.bits .xor .u32 4294967295 e) g)
 have u3 := U_bits .xor (Go.bits .xor .u32 (rotr a 2) (rotr a 13)) (rotr a 22)
 have u4 := U_bits .xor (Go.bits .xor .u32 (Go.bits .and .u32 a b) (Go.bits .and .u32 a c)) (Go.bits .and .u32 b c)
 generalize Go.bits .xor .u32 (Go.bits .xor .u32 (rotr e 6) (rotr e 11)) (rotr e 25) = s1 at u1 ⊢
 generalize Go.bits .xor .u32 (Go.bits .and .u32 e f) (Go.bits .and .u32 (Go.bits .xor .u32 4294967295 e) g) = s2 at u2 ⊢
 generalize Go.bits .xor .u32 (Go.bits .xor .u32 (rotr a 2) (rotr a 13)) (rotr a 22) = s3 at u3 ⊢
 generalize Go.bits .xor .u32 (Go.bits .xor .u32 (Go.bits .and .u32 a b) (Go.bits .and .u32 a c)) (Go.bits .and .u32 b c) = s4 at u4 ⊢
 unfold U at *
 rw [w64 (x := h + s1) (by omega) (by omega), w64 (x := h + s1 + s2) (by omega) (by omega), w64 (x := h + s1 + s2 + kc) (by omega) (by omega), w64 (x := h + s1 + s2 + kc + wc) (by omega) (by omega), w64 (x := s3 + s4) (by omega) (by omega), w64 (x := d + (h + s1 + s2 + kc + wc)) (by omega) (by omega), w64 (by omega) (by omega), mask32 (by omega) (by omega), mask32 (by omega) (by omega)]
 congr 1
 rw [Int.add_assoc (h + s1 + s2 + kc + wc) s3 s4]
theorem addAt_get (hs vs : List Int) (hv : vs.length = 8) (hh : hs.length = 8) (i : Nat) (hi : i ≤ 8) (j : Nat) (hj : j < 8) : (addAt hs vs i).getD j 0 = if j < i then (hs.getD j 0 + vs.getD j 0) % 4294967296 else hs.getD j 0 := by
 induction i with
 | zero => simp [addAt]
 | succ i ih =>
  have ih := ih (by omega)
  simp only [addAt]
  have hl : (addAt hs vs i).length = 8 := by rw [addAt_length]; exact hh
  by_cases hji : j = i
  ·subst hji
   rw [List.getD_eq_getElem?_getD, List.getElem?_set_self (by omega), if_pos (by omega)]
   rw [if_neg (by omega)] at ih
   rw [ih]
   rfl
  ·rw [List.getD_eq_getElem?_getD, List.getElem?_set_ne (fun h => hji h.symm), ← List.getD_eq_getElem?_getD, ih]
   by_cases h2 : j < i
   ·rw [if_pos h2, if_pos (by omega)]
   ·rw [if_neg h2, if_neg (by omega)]
theorem block_l1 (hs vs : List Int) (hh : hs.length = 8) (hv : vs.length = 8) (uh : ∀ x ∈ hs, U x) (uv : ∀ x ∈ vs, U x) : ∀ (d i : Nat) (x : List Int), i + d = 8 → x.length = 8 → (∀ j, j < 8 → x.getD j 0 = if j < i then (hs.getD j 0 + vs.getD j 0) % 4294967296 else vs.getD j 0) →
  Ev (fun k => spec_l2Block.l1 k hs x (i : Int)) (addAt hs vs 8) := by
 intro d
 induction d with
 | zero =>
  intro i x hi hx hg
  obtain rfl : i = 8 := by omega
  refine Ev.step (f := fun _ => some x) (fun k => ?_) (Ev.one (Ev.now _) ?_)
  ·simp only [spec_l2Block.l1]
   rw [if_neg (by omega)]
  ·have hl : (addAt hs vs 8).length = 8 := by rw [addAt_length]; exact hh
   refine List.ext_getElem (by rw [hl, hx]) (fun j h1 h2 => ?_)
   have e1 := hg j (by omega)
   have e2 := addAt_get hs vs hv hh 8 (by omega) j (by omega)
   rw [if_pos (by omega)] at e1 e2
   rw [← e2] at e1
   simpa [List.getD_eq_getElem?_getD, List.getElem?_eq_getElem h1, List.getElem?_eq_getElem h2] using e1
 | succ d ih =>
  intro i x hi hx hg
  have e1 := hg i (by omega)
  rw [if_neg (by omega)] at e1
  have u1 : U (vs.getD i 0) := getD_range uv U0 i
  have u2 : U (hs.getD i 0) := getD_range uh U0 i
  have hr1 : rd x (i : Int) = vs.getD i 0 := by unfold rd; rw [Int.toNat_natCast]; exact e1
  have hr2 : rd hs (i : Int) = hs.getD i 0 := by unfold rd; rw [Int.toNat_natCast]
  refine Ev.step (fun k => ?_) (ih (i + 1) (x.set i ((hs.getD i 0 + vs.getD i 0) % 4294967296)) (by omega) (by simp [hx]) ?_)
  ·simp only [spec_l2Block.l1]
   unfold U at u1 u2
   rw [if_pos (by omega), if_pos (by omega), if_pos (by omega), if_pos (by omega), hr1, hr2, w64 (x := (i : Int) + 1) (by omega) (by omega), w64 (by omega) (by omega), mask32 (by omega) (by omega), Int.toNat_natCast, Int.add_comm (vs.getD i 0)]
   rfl
  ·intro j hj
   by_cases hji : j = i
   ·subst hji
    rw [List.getD_eq_getElem?_getD, List.getElem?_set_self (by omega), if_pos (by omega)]
    rfl
   ·rw [List.getD_eq_getElem?_getD, List.getElem?_set_ne (fun h => hji h.symm), ← List.getD_eq_getElem?_getD, hg j hj]
    by_cases h2 : j < i
    ·rw [if_pos h2, if_pos (by omega)]
    ·rw [if_neg h2, if_neg (by omega)]
theorem block_l0 (ks ws hs : List Int) (hk : ks.length = 64) (hw : ws.length = 64) (hh : hs.length = 8) (uk : ∀ x ∈ ks, U x) (uw : ∀ x ∈ ws, U x) (uh : ∀ x ∈ hs, U x) : ∀ (d i : Nat), i + d = 64 →
  Ev (fun k => spec_l2Block.l0 k hs ks ws (vAt ks ws hs i) (i : Int)) (addAt hs (vAt ks ws hs 64) 8) := by
 intro d
 induction d with
 | zero =>
  intro i hi
  obtain rfl : i = 64 := by omega
  have hl := vAt_eight ks ws hs hh 64
  refine Ev.step (fun k => ?_) (block_l1 hs (vAt ks ws hs 64) hh hl uh (vAt_U ks ws hs uh 64) 8 0 (vAt ks ws hs 64) rfl hl (fun j _ => by rw [if_neg (by omega)]))
  simp only [spec_l2Block.l0]
  rw [if_neg (by omega)]
  rfl
 | succ d ih =>
  intro i hi
  have hl := vAt_eight ks ws hs hh i
  have uv := vAt_U ks ws hs uh i
  have uki : U (ks.getD i 0) := getD_range uk U0 i
  have uwi : U (ws.getD i 0) := getD_range uw U0 i
  have hr1 : rd ks (i : Int) = ks.getD i 0 := by unfold rd; rw [Int.toNat_natCast]
  have hr2 : rd ws (i : Int) = ws.getD i 0 := by unfold rd; rw [Int.toNat_natCast]
  refine Ev.step (fun k => ?_) (ih (i + 1) (by omega))
  have hv : vAt ks ws hs (i + 1) = turnStep (ks.getD i 0) (ws.getD i 0) (vAt ks ws hs i) := rfl
  rw [hv]
  generalize vAt ks ws hs i = v at hl uv
  obtain ⟨a, b, c, d, e, f, g, h, rfl⟩ := eight hl
  simp only [List.mem_cons, List.not_mem_nil, or_false] at uv
  have ua := uv a (by simp)
  have ub := uv b (by simp)
  have uc := uv c (by simp)
  have ud := uv d (by simp)
  have ue := uv e (by simp)
  have uf := uv f (by simp)
  have ug := uv g (by simp)
  have uh' := uv h (by simp)
  simp only [spec_l2Block.l0]
  rw [if_pos (by omega), show rd [a, b, c, d, e, f, g, h] 0 = a from rfl, show rd [a, b, c, d, e, f, g, h] 1 = b from rfl, show rd [a, b, c, d, e, f, g, h] 2 = c from rfl, show rd [a, b, c, d, e, f, g, h] 3 = d from rfl, show rd [a, b, c, d, e, f, g, h] 4 = e from rfl, show rd [a, b, c, d, e, f, g, h] 5 = f from rfl, show rd [a, b, c, d, e, f, g, h] 6 = g from rfl, show rd [a, b, c, d, e, f, g, h] 7 = h from rfl]
  rw [turn6 ue, turn11 ue, turn25 ue, turn2 ua, turn13 ua, turn22 ua, hr1, hr2]
  simp only [Option.bind_some]
  have l8 : (([a, b, c, d, e, f, g, h] : List Int).length : Int) = 8 := rfl
  rw [l8, hk, hw]
  rw [if_pos (by omega), if_pos (by omega), if_pos (by omega), if_pos (by omega), if_pos (by omega), if_pos (by omega), if_pos (by omega), if_pos (by omega), if_pos (by omega), if_pos (by omega), if_pos (by omega)]
  rw [step_eq ua ub uc ud ue uf ug uh' uki uwi, w64 (by omega) (by omega)]
  rfl
theorem block_ev (hs bs ks : List Int) (hk : ks.length = 64) (hl : bs.length = 64) (hh : hs.length = 8) (hb : ∀ x ∈ bs, 0 ≤ x ∧ x ≤ 255) (uk : ∀ x ∈ ks, U x) (uh : ∀ x ∈ hs, U x) : Ev (fun k => spec_l2Block.f k hs bs ks) (turned ks bs hs) := by
 unfold spec_l2Block.f
 refine Ev.bind (words_ev bs hl hb) ?_
 refine Ev.congr (fun k => ?_) (block_l0 ks (wAt bs 64) hs hk (wAt_length bs 64) hh uk (wAt_U bs 64) uh 64 0 rfl)
 simp only [Option.bind_some, List.length_nil, List.nil_append]
 rw [if_pos (by omega)]
 rfl
theorem turned_U (ks bs hs : List Int) (hh : hs.length = 8) (uh : ∀ x ∈ hs, U x) : ∀ x ∈ turned ks bs hs, U x := by
 intro x hx
 obtain ⟨j, hj, rfl⟩ := List.mem_iff_getElem.1 hx
 have hl : (turned ks bs hs).length = 8 := by rw [turned_length]; exact hh
 have := addAt_get hs (vAt ks (wAt bs 64) hs 64) (vAt_eight _ _ _ hh 64) hh 8 (by omega) j (by omega)
 rw [if_pos (by omega)] at this
 have e : (turned ks bs hs)[j] = (turned ks bs hs).getD j 0 := by simp [List.getD_eq_getElem?_getD, hj]
 rw [e]
 unfold turned
 rw [this]
 exact U_mod _
theorem shaK_U : ∀ x ∈ shaK, U x := by
 have : shaK.all (fun x => decide (0 ≤ x) && decide (x < 4294967296)) = true := by decide
 intro x hx
 have := List.all_eq_true.1 this x hx
 simp at this
 exact this
theorem shaH_U : ∀ x ∈ shaH, U x := by
 have : shaH.all (fun x => decide (0 ≤ x) && decide (x < 4294967296)) = true := by decide
 intro x hx
 have := List.all_eq_true.1 this x hx
 simp at this
 exact this
theorem foldAt_U (p : List Int) (n : Nat) : ∀ x ∈ foldAt p (starts n), U x := by
 induction n with
 | zero => exact shaH_U
 | succ n ih =>
  rw [starts_succ, foldAt_snoc]
  exact turned_U _ _ _ (foldAt_length _ _) ih
theorem spadded_l1 (n : Int) : ∀ (j : Nat) (acc : List Int), j ≤ 8 → acc.length + j ≤ 140737488355320 → Ev (fun k => spec_Padded.l1 k acc n (8 * (j : Int) - 8)) (acc ++ tailBytes n j) := by
 intro j
 induction j with
 | zero =>
  intro acc _ _
  refine Ev.step (f := fun _ => some acc) (fun k => ?_) (Ev.one (Ev.now _) (by simp [tailBytes]))
  simp only [spec_Padded.l1]
  rw [if_neg (by omega)]
 | succ j ih =>
  intro acc h1 h2
  refine Ev.step (fun k => ?_) (Ev.one (ih (acc ++ [(shr .i64 n (8 * (j : Int))) % 256]) (by omega) (by simp; omega)) (by simp [tailBytes]))
  simp only [spec_Padded.l1]
  rw [show 8 * (((j + 1 : Nat) : Int)) - 8 = 8 * (j : Int) from by omega, IntWalk.u64_in _ ⟨by omega, by omega⟩, if_pos (by omega), if_pos (by omega), if_pos (by omega), w64 (by omega) (by omega)]
theorem spadded_l0 (l : List Int) (hl : l.length ≤ 1099511627776) : ∀ (d i : Nat) (acc : List Int), i + d = zerosOf l.length → acc = l ++ [128] ++ List.replicate i 0 → Ev (fun k => spec_Padded.l0 k l acc) (padL l) := by
 intro d
 induction d with
 | zero =>
  intro i acc hi ha
  have hlen : acc.length = l.length + 1 + i := by rw [ha]; simp; omega
  have hz : zerosOf l.length = (119 - l.length % 64) % 64 := rfl
  refine Ev.step (fun k => ?_) (Ev.one (spadded_l1 (8 * (l.length : Int)) 8 acc (by omega) (by omega)) ?_)
  ·simp only [spec_Padded.l0]
   rw [if_pos (by omega), w64 (by omega) (by omega), Int.mul_comm]
   rfl
  ·rw [ha, show i = zerosOf l.length from by omega]
   rfl
 | succ d ih =>
  intro i acc hi ha
  have hlen : acc.length = l.length + 1 + i := by rw [ha]; simp; omega
  have hz : zerosOf l.length = (119 - l.length % 64) % 64 := rfl
  refine Ev.step (fun k => ?_) (ih (i + 1) (acc ++ [0]) (by omega) (by rw [ha, List.append_assoc (l ++ [128])]; congr 1; rw [List.replicate_succ']))
  simp only [spec_Padded.l0]
  rw [if_neg (by omega), if_pos (by omega)]
theorem spec_Padded_ev (l : List Int) (hl : l.length ≤ 1099511627776) : Ev (fun k => spec_Padded.f k l) (padL l) := by
 refine Ev.congr (fun k => ?_) (spadded_l0 l hl (zerosOf l.length) 0 (l ++ [128]) (by omega) (by simp))
 unfold spec_Padded.f
 simp only [Option.bind_some, List.length_nil, List.nil_append]
 rw [if_pos (by omega), if_pos (by omega)]
theorem outBytes_succ (hs : List Int) (i : Nat) (h : i < hs.length) : outBytes hs (i + 1) = outBytes hs i ++ wordBytes (hs.getD i 0) := by
 unfold outBytes
 have hx : hs[i]? = some (hs.getD i 0) := by simp [List.getD_eq_getElem?_getD, h]
 rw [take_one hx, List.flatMap_append]
 simp
theorem wordBytes_length (x : Int) : (wordBytes x).length = 4 := rfl
theorem outBytes_length (hs : List Int) (i : Nat) (h : i ≤ hs.length) : (outBytes hs i).length = 4 * i := by
 induction i with
 | zero => simp [outBytes]
 | succ i ih =>
  rw [outBytes_succ hs i h, List.length_append, ih (by omega), wordBytes_length]
  omega
theorem sdigest_l1 (hs : List Int) (hh : hs.length = 8) : ∀ (d i : Nat), i + d = 8 → Ev (fun k => spec_Digest.l1 k hs (outBytes hs i) (i : Int)) (strOfNums (outBytes hs 8)) := by
 intro d
 induction d with
 | zero =>
  intro i hi
  obtain rfl : i = 8 := by omega
  refine Ev.step (f := fun _ => some (strOfNums (outBytes hs 8))) (fun k => ?_) (Ev.now _)
  simp only [spec_Digest.l1]
  rw [if_neg (by omega)]
 | succ d ih =>
  intro i hi
  have hr : rd hs (i : Int) = hs.getD i 0 := by unfold rd; rw [Int.toNat_natCast]
  have ho := outBytes_length hs i (by omega)
  refine Ev.step (fun k => ?_) (ih (i + 1) (by omega))
  simp only [spec_Digest.l1, Option.bind_some, List.length_cons, List.length_nil]
  rw [if_pos (by omega), if_pos (by omega), if_pos (by omega), if_pos (by omega), hr, w64 (by omega) (by omega), outBytes_succ hs i (by omega)]
  rfl
theorem blockAt_mem {p : List Int} {x : Nat} {y : Int} (h : y ∈ blockAt p x) : y ∈ p := List.mem_of_mem_drop (List.mem_of_mem_take h)
theorem sdigest_l0 (p : List Int) (hp : p.length % 64 = 0) (hl : p.length ≤ 2199023255552) (hb : ∀ x ∈ p, 0 ≤ x ∧ x ≤ 255) : ∀ (d i : Nat), i + d = p.length / 64 → Ev (fun k => spec_Digest.l0 k p (foldAt p (starts i)) shaK (64 * (i : Int))) (strOfNums (outBytes (foldAt p (starts (p.length / 64))) 8)) := by
 intro d
 induction d with
 | zero =>
  intro i hi
  obtain rfl : i = p.length / 64 := by omega
  refine Ev.step (fun k => ?_) (sdigest_l1 _ (foldAt_length _ _) 8 0 rfl)
  simp only [spec_Digest.l0]
  rw [if_neg (by omega)]
  rfl
 | succ d ih =>
  intro i hi
  have hbl : (blockAt p (64 * i)).length = 64 := by simp [blockAt]; omega
  have hbe : (p.take (64 * (i : Int) + 64).toNat).drop (64 * (i : Int)).toNat = blockAt p (64 * i) := by
   rw [show (64 * (i : Int) + 64).toNat = 64 * i + 64 from by omega, show (64 * (i : Int)).toNat = 64 * i from by omega, List.drop_take]
   unfold blockAt
   congr 1
   omega
  have hB := block_ev (foldAt p (starts i)) (blockAt p (64 * i)) shaK rfl hbl (foldAt_length _ _) (fun x hx => hb x (blockAt_mem hx)) shaK_U (foldAt_U p i)
  have hI := ih (i + 1) (by omega)
  rw [starts_succ, foldAt_snoc] at hI
  refine Ev.step (fun k => ?_) (Ev.bind (f := fun k t => spec_Digest.l0 k p t shaK (64 * ((i + 1 : Nat) : Int))) hB hI)
  simp only [spec_Digest.l0]
  rw [w64 (x := 64 * (i : Int) + 64) (by omega) (by omega), if_pos (by omega), if_pos (by omega), if_pos (by omega), if_pos (by omega), hbe]
  rfl
theorem spec_Digest_ev (l : List Int) (hl : l.length ≤ 1099511627776) (hb : ∀ x ∈ l, 0 ≤ x ∧ x ≤ 255) : Ev (fun k => spec_Digest.f k l) (sha l) := by
 unfold spec_Digest.f
 refine Ev.bind (spec_Padded_ev l hl) ?_
 have hs := padL_size l
 refine Ev.congr (fun k => ?_) (sdigest_l0 (padL l) (padL_length l) (by omega) (padL_bytes l hb) ((padL l).length / 64) 0 (by omega))
 unfold spec_l2K.f
 rfl
theorem impl_Digest_is (l : List Int) (hl : l.length ≤ 1099511627776) : impl_Digest.f l = some (sha l) := if_pos hl
theorem sha_size (l : List Int) : (sha l).size = 32 := by
 unfold sha shaBytes
 have := outBytes_length (foldAt (padL l) (starts ((padL l).length / 64))) 8 (by rw [foldAt_length]; exact Nat.le_refl _)
 show ((outBytes (foldAt (padL l) (starts ((padL l).length / 64))) 8).map fun n => UInt8.ofNat n.toNat).toArray.size = 32
 simp [this]
end Go.Proofs.YtnlndmoecljicaaGreat.Q
end
section
namespace Go.Proofs.YtnlndmoecljicaaGreat.Q
open Go.RowKit Go.Shelf Go.Proofs.YtnlndmoecljicaaGreatW.PrintWords Go.Proofs.YtnlndmoecljicaaGreatW.PrintLast Go.Proofs.YtnlndmoecljicaaGreatW.PrintMore
set_option linter.unusedVariables false
set_option linter.unusedSimpArgs false
theorem C_at {w W : World} {g n : Nat} {xs : List Int} (h : Kd.C (Kd.int .u8) w (some ⟨g, 0, none⟩) n xs) (hb : W.heap[g]? = w.heap[g]?) : Kd.C (Kd.int .u8) W (some ⟨g, 0, none⟩) n xs := by
 refine ⟨h.1, h.2.1, fun hp => ?_⟩
 obtain ⟨ad, he, f⟩ := h.2.2 hp
 obtain rfl := (Option.some.inj he).symm
 refine ⟨_, he, fun j p hj => ?_⟩
 obtain ⟨cs, h1, h2, h3⟩ := f j p hj
 refine ⟨cs, h1, h2, fun i u hu => ?_⟩
 have h4 := h3 i u hu
 have ha : ((⟨g, 0, none⟩ : Addr).add (j * (Kd.int .u8).sz + i)).block = g := by
  unfold Addr.add
  split <;> rfl
 rw [World.cell?_of_block (w := w) (w' := W) (by rw [ha]; exact hb)]
 exact h4
set_option maxRecDepth 100000 in
@[local go_sem] theorem run_index_h0 (v0 v1 v2 v3 v4 v5 v6 v7 : Int) (w : World) : (Instr.index 159 (.agg #[.int .u32 v0, .int .u32 v1, .int .u32 v2, .int .u32 v3, .int .u32 v4, .int .u32 v5, .int .u32 v6, .int .u32 v7]) (.int .i64 0)).run Tryz.prog w = .ok (.int .u32 v0) w := by
 simp [Instr.index, asIntOf, run_underlying Tryz.underlying159, go_sem]
set_option maxRecDepth 100000 in
@[local go_sem] theorem run_index_h1 (v0 v1 v2 v3 v4 v5 v6 v7 : Int) (w : World) : (Instr.index 159 (.agg #[.int .u32 v0, .int .u32 v1, .int .u32 v2, .int .u32 v3, .int .u32 v4, .int .u32 v5, .int .u32 v6, .int .u32 v7]) (.int .i64 1)).run Tryz.prog w = .ok (.int .u32 v1) w := by
 simp [Instr.index, asIntOf, run_underlying Tryz.underlying159, go_sem]
set_option maxRecDepth 100000 in
@[local go_sem] theorem run_index_h2 (v0 v1 v2 v3 v4 v5 v6 v7 : Int) (w : World) : (Instr.index 159 (.agg #[.int .u32 v0, .int .u32 v1, .int .u32 v2, .int .u32 v3, .int .u32 v4, .int .u32 v5, .int .u32 v6, .int .u32 v7]) (.int .i64 2)).run Tryz.prog w = .ok (.int .u32 v2) w := by
 simp [Instr.index, asIntOf, run_underlying Tryz.underlying159, go_sem]
set_option maxRecDepth 100000 in
@[local go_sem] theorem run_index_h3 (v0 v1 v2 v3 v4 v5 v6 v7 : Int) (w : World) : (Instr.index 159 (.agg #[.int .u32 v0, .int .u32 v1, .int .u32 v2, .int .u32 v3, .int .u32 v4, .int .u32 v5, .int .u32 v6, .int .u32 v7]) (.int .i64 3)).run Tryz.prog w = .ok (.int .u32 v3) w := by
 simp [Instr.index, asIntOf, run_underlying Tryz.underlying159, go_sem]
set_option maxRecDepth 100000 in
@[local go_sem] theorem run_index_h4 (v0 v1 v2 v3 v4 v5 v6 v7 : Int) (w : World) : (Instr.index 159 (.agg #[.int .u32 v0, .int .u32 v1, .int .u32 v2, .int .u32 v3, .int .u32 v4, .int .u32 v5, .int .u32 v6, .int .u32 v7]) (.int .i64 4)).run Tryz.prog w = .ok (.int .u32 v4) w := by
 simp [Instr.index, asIntOf, run_underlying Tryz.underlying159, go_sem]
set_option maxRecDepth 100000 in
@[local go_sem] theorem run_index_h5 (v0 v1 v2 v3 v4 v5 v6 v7 : Int) (w : World) : (Instr.index 159 (.agg #[.int .u32 v0, .int .u32 v1, .int .u32 v2, .int .u32 v3, .int .u32 v4, .int .u32 v5, .int .u32 v6, .int .u32 v7]) (.int .i64 5)).run Tryz.prog w = .ok (.int .u32 v5) w := by
 simp [Instr.index, asIntOf, run_underlying Tryz.underlying159, go_sem]
set_option maxRecDepth 100000 in
@[local go_sem] theorem run_index_h6 (v0 v1 v2 v3 v4 v5 v6 v7 : Int) (w : World) : (Instr.index 159 (.agg #[.int .u32 v0, .int .u32 v1, .int .u32 v2, .int .u32 v3, .int .u32 v4, .int .u32 v5, .int .u32 v6, .int .u32 v7]) (.int .i64 6)).run Tryz.prog w = .ok (.int .u32 v6) w := by
 simp [Instr.index, asIntOf, run_underlying Tryz.underlying159, go_sem]
set_option maxRecDepth 100000 in
@[local go_sem] theorem run_index_h7 (v0 v1 v2 v3 v4 v5 v6 v7 : Int) (w : World) : (Instr.index 159 (.agg #[.int .u32 v0, .int .u32 v1, .int .u32 v2, .int .u32 v3, .int .u32 v4, .int .u32 v5, .int .u32 v6, .int .u32 v7]) (.int .i64 7)).run Tryz.prog w = .ok (.int .u32 v7) w := by
 simp [Instr.index, asIntOf, run_underlying Tryz.underlying159, go_sem]
theorem xd_blk {A B : World} {row : Option Nat} {b n : Nat} {cs : Array Value} {T : TypeId} (h : A.heap[n]? = some (.cells cs T (0, 0))) (hg : A.grownBy B row) (hr : ∀ r, row = some r → b ≤ r ∧ ∃ o : Obj, A.heap[r]? = some o ∧ o.isCells = false) : B.heap[n]? = some (.cells cs T (0, 0)) := by
 rw [hg.block n (blk_lt h) (fun e => ?_)]
 ·exact h
 ·obtain ⟨_, o, ho, hc⟩ := hr n e.symm
  rw [h] at ho
  cases ho
  cases hc
theorem turn64 {g : Nat} (gh gk x : Nat) (p hs : List Int) (w : World) (hC : Kd.C (Kd.int .u8) w (some ⟨g, 0, none⟩) p.length p) (hx : x + 64 ≤ p.length) (hh : hs.length = 8)
  (hgh : w.heap[gh]? = some (.cells (arrU hs) 159 (0, 0))) (hgk : w.heap[gk]? = some (.cells (arrU shaK) 170 (0, 0))) :
  Calls Tryz.prog 159 #[.pointer (some ⟨gh, 0, none⟩), .slice (some ⟨g, x, none⟩) 64 64, .pointer (some ⟨gk, 0, none⟩)] w fun e w' => e = .returned (.tuple #[]) ∧ w.grownBy w' (some gh) ∧ w'.heap[gh]? = some (.cells (arrU (turned shaK (blockAt p x) hs)) 159 (0, 0)) := by
 obtain ⟨h1, h2⟩ := sub_reads hC x hx
 have := turnBlock_calls gh gk (some ⟨g, 0 + x, none⟩) 64 (blockAt p x) hs shaK w h1 h2 hh rfl hgh hgk
 rw [h2, Nat.zero_add] at this
 exact this
set_option maxHeartbeats 4000000 in
set_option maxRecDepth 100000 in
theorem impl_Digest.calls (A0 : Option Addr) (c0 : Nat) (l0 : List Int) (r : ByteArray) (w : World) (hr0 : Kd.C (Kd.int .u8) w A0 l0.length l0) (hc0 : l0.length ≤ c0) (h : impl_Digest.f l0 = some r) :
  Calls Tryz.prog 133 #[.slice A0 l0.length c0] w fun e w' => e = .returned (.string r) ∧ Below w.heap.size w w' := by
 unfold impl_Digest.f at h
 by_cases hl : l0.length ≤ 1099511627776
 ·rw [if_pos hl] at h
  obtain rfl := Option.some.inj h
  clear h
  obtain ⟨kp, hkp⟩ := Ev.rounds (impl_Padded_ev l0 hl)
  have HP := Aside0.mk hkp
  have HR := Aside0.mk hr0
  have HC := Aside0.mk hc0
  have HLL := Aside0.mk hl
  clear hkp hr0 hc0 hl
  refine (callsIn_wide (n := 3)).1 ?_
  refine callsIn_of_wp_marks Tryz.func133 rfl trivial ?_ rfl
  refine wpIn_wide.2 ?_
  simp only [Tryz.ntmps133, List.size_toArray, List.length_cons, List.length_nil, Nat.reduceAdd, Nat.reduceSub, Array.replicate_succ, Array.replicate_zero, List.push_toArray, List.append_toArray, List.nil_append, List.cons_append]
  go_wp2_with (go_at_call 156; (with_reducible refine (rounds_calls _).mono ?_); rintro e w1 ⟨gk, rfl, hk1, hk2, hb1⟩; have HK1 := Aside0.mk hk1; have HK2 := Aside0.mk hk2; have HB1 := Aside0.mk hb1; clear hk1 hk2 hb1)
  have HH1 := Aside0.mk (blk_below (blk_new w _) HB1.out)
  have HB2 := Aside0.mk (show Below w.heap.size w (w1.alloc (.cells #[.pointer (some ⟨gk, 0, none⟩)] 160)) from ((((Below.refl _ _).alloc (Nat.le_refl _) _).trans (HB1.out.mono (by simp))).alloc (by have := HB1.out.size; simp at this; omega) _))
  have HH2 := Aside0.mk (blk_alloc HH1.out (.cells #[.pointer (some ⟨gk, 0, none⟩)] 160))
  have HK3 := Aside0.mk (blk_alloc HK2.out (.cells #[.pointer (some ⟨gk, 0, none⟩)] 160))
  have HP2 := Aside0.mk (blk_new w1 (.cells #[.pointer (some ⟨gk, 0, none⟩)] 160))
  obtain ⟨gh, hgh⟩ : ∃ gh, w.heap.size = gh := ⟨_, rfl⟩
  obtain ⟨gb, hgb⟩ : ∃ gb, w1.heap.size = gb := ⟨_, rfl⟩
  have HGH := Aside0.mk hgh
  rw [hgh] at HH2
  rw [hgb] at HP2
  simp only [hgh, hgb]
  clear hgh hgb HH1 HK2 HK1
  generalize w1.alloc (.cells #[.pointer (some ⟨gk, 0, none⟩)] 160) = w2 at HB2 HH2 HK3 HP2 ⊢
  with_reducible refine (impl_Padded.calls kp _ _ l0 (padL l0) _ (Kd.C_below HR.out HB2.out) HC.out HP.out).mono ?_
  rintro e w3 ⟨vp, rfl, ho, hb3⟩
  have hplen := padL_length l0
  have hpsz := padL_size l0
  have hpp : 0 < (padL l0).length := by simp [padL]; omega
  obtain ⟨g, cap, rfl, hg1, hg2, cs0, hcs0⟩ := Kd.R_form ho hpp
  obtain ⟨_, hcap, hC⟩ := Kd.R_reads' ho
  have HO := Aside0.mk hC
  have HCS := Aside0.mk hcs0
  have HB3 := Aside0.mk (HB2.out.trans (hb3.mono HB2.out.size))
  have HH3 := Aside0.mk (blk_below HH2.out hb3)
  have HK4 := Aside0.mk (blk_below HK3.out hb3)
  have HP3 := Aside0.mk (blk_below HP2.out hb3)
  have HSZ := Aside0.mk hb3.size
  have HG := Aside0.mk (And.intro hg1 hg2)
  have HN := Aside0.mk (And.intro hplen (And.intro hpsz hcap))
  clear ho hb3 hg1 hg2 hcs0 hC hcap hplen hpsz hpp
  clear HB2 HH2 HK3 HP2
  go_wp2_with (go_at_call 157; (refine (callsIn_wide.1 (chunk_in Fence.wide 1 trivial rfl _ _ _ _)).mono ?_); rintro e w4 ⟨rfl, rfl⟩)
  rename_i hKz _
  have HKz := Aside0.mk hKz
  clear hKz
  obtain ⟨w4, hw4⟩ : ∃ w4, (w3.alloc (.cells #[.slice (some ⟨g, 0, none⟩) (padL l0).length cap] 27)).alloc (.cells #[.int .i64 64] 3) = w4 := ⟨_, rfl⟩
  have hb4 : Below w3.heap.size w3 w4 := by rw [← hw4]; exact ((Below.refl _ _).alloc (Nat.le_refl _) _).alloc (by simp) _
  have hsz4 : w4.heap.size = w3.heap.size + 2 := by rw [← hw4]; simp
  have HBs : w4.cell? ⟨w3.heap.size, 0, none⟩ = some (.slice (some ⟨g, 0, none⟩) (padL l0).length cap) := by
   rw [← hw4]
   simp
  have HBn : w4.cell? ⟨w3.heap.size + 1, 0, none⟩ = some (.int .i64 64) := by
   rw [← hw4]
   simp
  have hC4 := Kd.C_below HO.out hb4
  have hcs4 := blk_below HCS.out hb4
  have hgh4 := blk_below HH3.out hb4
  have hgk4 := blk_below HK4.out hb4
  have hgb4 := blk_below HP3.out hb4
  have hB4 : Below w.heap.size w w4 := HB3.out.trans (hb4.mono HB3.out.size)
  rw [hw4]
  clear hw4
  have hN := HN.out
  have hm : (padL l0).length = 64 * ((padL l0).length / 64) := by omega
  refine (wpIn_wide (n := 3)).1 ?_
  refine wpIn_rangeFunc_ownF rfl (by omega) (gf := 169) (lb := #[.pointer (some ⟨w3.heap.size, 0, none⟩), .pointer (some ⟨w3.heap.size + 1, 0, none⟩)]) rfl trivial (enters_of Tryz.func169 (by kernel_rfl) rfl)
   (chunk_stops Fence.wide _ trivial rfl (by omega) w3.heap.size (w3.heap.size + 1) w4.heap.size gh g 0 cap ((padL l0).length / 64) (padL l0).length hm hN.2.2 (by have := HLL.out; omega) (by have := blk_lt hcs4; omega) (by omega) (by omega) (by have := blk_lt HH3.out; omega) (by have := blk_lt HH3.out; omega) w4 (Nat.le_refl _) HBs HBn)
   BelowBut.trans (BelowBut.putObj (Nat.le_refl _)) (Below.refl _ _) (fun _ => rfl)
   (fun pre W => (Aside0 (W.heap[gh]? = some (.cells (arrU (foldAt (padL l0) (pre.map (·.1)))) 159 (0, 0))) ∧ Aside0 (W.heap[gk]? = some (.cells (arrU shaK) 170 (0, 0))) ∧ Aside0 (W.heap[gb]? = some (.cells #[.pointer (some ⟨gk, 0, none⟩)] 160 (0, 0))) ∧ Aside0 (W.heap[g]? = some (.cells cs0 5 (0, 0))) ∧ Aside0 (w4.heap.size ≤ W.heap.size)) ∧ Below w.heap.size w W)
   (fun _ _ _ => False)
   ?own (fun c => ?ownx) ?h0
   (fun x => { tmps := #[Value.slice A0 l0.length c0, undef, .string ⟨#[]⟩, .pointer (some ⟨gh, 0, none⟩), .pointer (some ⟨gb, 0, none⟩), Value.slice (some ⟨g, x.1, none⟩) 64 64, undef, undef, undef, .agg #[.int .u32 1779033703, .int .u32 3144134277, .int .u32 1013904242, .int .u32 2773480762, .int .u32 1359893119, .int .u32 2600822924, .int .u32 528734635, .int .u32 1541459225], .pointer (some ⟨gk, 0, none⟩), .slice A0 l0.length c0, .slice (some ⟨g, 0, none⟩) (padL l0).length cap, .func (.func 169) #[] #[.pointer (some ⟨w3.heap.size, 0, none⟩), .pointer (some ⟨w3.heap.size + 1, 0, none⟩)], Value.slice (some ⟨g, x.1, none⟩) 64 64, undef, undef, undef, undef, undef, undef, undef, undef, undef, undef, undef, undef, undef, undef, undef, undef, undef, undef, undef, undef, undef, undef, undef, undef], defers := [] }) ?assign ?body ?done ?stop
  case assign =>
   intro l x W K hK
   clear hm hN
   gi_wp2_with (rw [Oper.semAt_eq _ _ _ (fun c h => by cases h)]; go_simp; try go_bits)
   exact hK
  case body =>
   rintro l pre x W ⟨⟨hh, hk, hb, hc, hs⟩, hB⟩ _
   clear hm hN
   have cb : W.cell? ⟨gb, 0, none⟩ = some (.pointer (some ⟨gk, 0, none⟩)) := blk_cell hb.out 0
   have hcx : Kd.C (Kd.int .u8) W (some ⟨g, 0, none⟩) (padL l0).length (padL l0) := C_at hC4 (hc.out.trans hcs4.symm)
   have HCX := Aside0.mk hcx
   clear hcx hC4
   gi_wp2_with (rw [Oper.semAt_eq _ _ _ (fun c h => by cases h)]; go_simp; try go_bits)
   refine ⟨trivial, ?_⟩
   have HT := turn64 (g := g) gh gk x.1 (padL l0) (foldAt (padL l0) (pre.map (·.1))) W HCX.out x.2 (foldAt_length _ _) hh.out hk.out
   refine CallsIn.mono (CallsIn.inRound l (callsIn_wide.2 HT)) ?_
   rintro e W' ⟨rfl, hg', hn'⟩
   gi_wp2
   have hb0 : BelowBut w4.heap.size gh W W' := BelowBut.grown hg' hs.out
   have hsz := hs.out
   have hl1 := blk_lt hgk4
   have hl2 := blk_lt hgb4
   have hl3 := blk_lt hcs4
   have n1 : gk ≠ gh := blk_ne hk.out hh.out (by decide)
   have n2 : gb ≠ gh := blk_ne hb.out hh.out (by decide)
   have n3 : g ≠ gh := blk_ne hc.out hh.out (by decide)
   refine ⟨KeepsOthers.of_grownBy hg' (fun j o hj ho => by cases hj; rw [hh.out] at ho; cases ho; rfl), hb0, ⟨⟨?_⟩, ⟨?_⟩, ⟨?_⟩, ⟨?_⟩, ⟨?_⟩⟩, ?_⟩
   ·rw [List.map_append, List.map_cons, List.map_nil, foldAt_snoc]
    exact hn'
   ·exact (hb0.block gk hl1 n1).trans hk.out
   ·exact (hb0.block gb hl2 n2).trans hb.out
   ·exact (hb0.block g hl3 n3).trans hc.out
   ·exact Nat.le_trans hsz hb0.size
   ·exact hB.grown hg' (Nat.le_trans hB4.size hsz) (fun k e => by cases e; have := HGH.out; omega)
  case own =>
   refine OwnFrom.and (fun s A B row hs hg hr => ⟨⟨xd_blk hs.1.out hg hr⟩, ⟨xd_blk hs.2.1.out hg hr⟩, ⟨xd_blk hs.2.2.1.out hg hr⟩, ⟨xd_blk hs.2.2.2.1.out hg hr⟩, ⟨Nat.le_trans hs.2.2.2.2.out hg.size⟩⟩) (ownFrom_below (Nat.le_refl _) hB4.size)
  case ownx => exact fun s A B row hs hg hr => hs
  case h0 => exact ⟨⟨⟨hgh4⟩, ⟨hgk4⟩, ⟨hgb4⟩, ⟨hcs4⟩, ⟨Nat.le_refl _⟩⟩, hB4⟩
  case stop => exact fun D c pre W _ _ hx => hx.elim
  case done =>
   rintro D xs W hD hS ⟨⟨hh, _, _, _, hs⟩, hB⟩ hK
   clear hm hN hC4 hcs4 hgh4 hgk4 hgb4 hB4 HBs HBn
   refine HKz.out _ _ ?_
   clear HKz
   obtain ⟨v0, v1, v2, v3, v4, v5, v6, v7, hv⟩ := eight (foldAt_length (padL l0) (starts ((padL l0).length / 64)))
   rw [hS, hv] at hh
   have c0 : W.cell? ⟨gh, 0, none⟩ = some (.int .u32 v0) := blk_cell hh.out 0
   have c1 : W.cell? ⟨gh, 1, none⟩ = some (.int .u32 v1) := blk_cell hh.out 1
   have c2 : W.cell? ⟨gh, 2, none⟩ = some (.int .u32 v2) := blk_cell hh.out 2
   have c3 : W.cell? ⟨gh, 3, none⟩ = some (.int .u32 v3) := blk_cell hh.out 3
   have c4 : W.cell? ⟨gh, 4, none⟩ = some (.int .u32 v4) := blk_cell hh.out 4
   have c5 : W.cell? ⟨gh, 5, none⟩ = some (.int .u32 v5) := blk_cell hh.out 5
   have c6 : W.cell? ⟨gh, 6, none⟩ = some (.int .u32 v6) := blk_cell hh.out 6
   have c7 : W.cell? ⟨gh, 7, none⟩ = some (.int .u32 v7) := blk_cell hh.out 7
   have HV := Aside0.mk hv
   have HD := Aside0.mk hD
   have HKD := Aside0.mk hK
   have HBB := Aside0.mk hB
   have HS4 := Aside0.mk hsz4
   clear hv hD hK hB hS hsz4 hb4
   go_wp2
   have HL := Aside0.mk (And.intro hh.out hs.out)
   clear c0 c1 c2 c3 c4 c5 c6 c7 hh hs
   obtain ⟨W0, hW0⟩ : ∃ W0 : World, W = W0 := ⟨_, rfl⟩
   go_loopw [6, 19] (fun x6 x19 W' => ∃ k : Nat, k ≤ 8 ∧ x19 = .int .i64 k ∧ Aside0 (Kd.R (Kd.int .u8) 5 W' W.heap.size (fun _ => True) x6 (outBytes [v0, v1, v2, v3, v4, v5, v6, v7] k)) ∧ Aside0 (Below W.heap.size W W')) (fun _ x19 _ => 8 - (intOf x19).toNat)
   case atStart => exact ⟨0, by omega, rfl, ⟨Kd.R_nil _ _ _ _ _⟩, ⟨Below.refl _ _⟩⟩
   case round =>
    obtain ⟨k, hk, rfl, HR1, HB1⟩ := hrel
    by_cases hlt : k < 8
    ·have hk8 : k = 0 ∨ k = 1 ∨ k = 2 ∨ k = 3 ∨ k = 4 ∨ k = 5 ∨ k = 6 ∨ k = 7 := by omega
     clear hk hlt
     rcases hk8 with rfl | rfl | rfl | rfl | rfl | rfl | rfl | rfl
     ·go_wp2_with (first
       | ((with_reducible refine gate_dst (N := 34) rfl ?_); refine Kd.R_lit (Kd.int .u8) _ 5 ?hg (N := 34) ?hd (xs := wordBytes v0) (inner := [.int .u8 (v0 / 16777216 % 256), .int .u8 (v0 / 65536 % 256), .int .u8 (v0 / 256 % 256), .int .u8 (v0 % 256)]) (ok := fun _ => True) (okp := fun _ => True) ?hr ?hp (fun _ hk => hk) trivial (Below.refl _ _) (Nat.le_refl _) (by simp [wordBytes]) ?_; (case hd => rfl); (case hg => rfl); (case hr => first | (go_simp; done) | (go_simp; rfl)); (case hp => exact Reps.one (show Kd.M (Kd.int .u8) _ _ _ (v0 / 16777216 % 256) [.int .u8 (v0 / 16777216 % 256)] from rfl) (Reps.one (show Kd.M (Kd.int .u8) _ _ _ (v0 / 65536 % 256) [.int .u8 (v0 / 65536 % 256)] from rfl) (Reps.one (show Kd.M (Kd.int .u8) _ _ _ (v0 / 256 % 256) [.int .u8 (v0 / 256 % 256)] from rfl) (Reps.one (show Kd.M (Kd.int .u8) _ _ _ (v0 % 256) [.int .u8 (v0 % 256)] from rfl) (Reps.none _ _))))); intro vl wl ho hb hg_ hn_; clear hg_ hn_; have n0 := Aside0.mk (Kd.R_elder' HR1.out (Kd.R_base ho) hb); have n1 := Aside0.mk (Kd.R_lower (Kd.R_new' ho (Kd.R_lt HR1.out)) (below_size HB1.out)); have n2 := Aside0.mk (below_step HB1.out hb); clear HR1 HB1 ho hb; have HR1 := n0; have HO1 := n1; have HB1 := n2; clear n0 n1 n2; obtain ⟨Ao, co, eo⟩ := Kd.R_slice HO1.out; subst eo)
       | ((with_reducible refine gate_builtin (b := .append) (xs := #[.tmp 22, .tmp 34]) rfl ?_); at_builtin; refine Kd.R_append_rows (Kd.int .u8) (w0 := W) W.heap.size rfl (.tmp 22) (.tmp 34) 27 5 (.int .u8 0) 1 rfl Tryz.underlying27 info5 rfl (by decide) (by omega) u6 (outBytes [v0, v1, v2, v3, v4, v5, v6, v7] 0) (wordBytes v0) _ _ _ (fun k_ => some k_ ≠ (.slice Ao (wordBytes v0).length co : Value).ownBlock) (fun _ => False) rfl rfl (Kd.R_mono HR1.out (fun _ hk => hk.2)) (Kd.R_reads' HO1.out).2.2 (fun _ _ h => h) (fun _ h => h.elim) (fun k_ hk => Kd.fresh' (Kd.R_lt HO1.out) k_ hk) HB1.out (below_size HB1.out) (by simp [outBytes, wordBytes]) ?_; intro va wa ho hb hg_ hn_; clear hg_ hn_))
      go_roundw
      case rel => exact ⟨1, by omega, by go_num, ⟨Kd.R_mono ho (fun _ _ => trivial)⟩, ⟨hb⟩⟩
      case measure => simp [intOf]
     ·go_wp2_with (first
       | ((with_reducible refine gate_dst (N := 34) rfl ?_); refine Kd.R_lit (Kd.int .u8) _ 5 ?hg (N := 34) ?hd (xs := wordBytes v1) (inner := [.int .u8 (v1 / 16777216 % 256), .int .u8 (v1 / 65536 % 256), .int .u8 (v1 / 256 % 256), .int .u8 (v1 % 256)]) (ok := fun _ => True) (okp := fun _ => True) ?hr ?hp (fun _ hk => hk) trivial (Below.refl _ _) (Nat.le_refl _) (by simp [wordBytes]) ?_; (case hd => rfl); (case hg => rfl); (case hr => first | (go_simp; done) | (go_simp; rfl)); (case hp => exact Reps.one (show Kd.M (Kd.int .u8) _ _ _ (v1 / 16777216 % 256) [.int .u8 (v1 / 16777216 % 256)] from rfl) (Reps.one (show Kd.M (Kd.int .u8) _ _ _ (v1 / 65536 % 256) [.int .u8 (v1 / 65536 % 256)] from rfl) (Reps.one (show Kd.M (Kd.int .u8) _ _ _ (v1 / 256 % 256) [.int .u8 (v1 / 256 % 256)] from rfl) (Reps.one (show Kd.M (Kd.int .u8) _ _ _ (v1 % 256) [.int .u8 (v1 % 256)] from rfl) (Reps.none _ _))))); intro vl wl ho hb hg_ hn_; clear hg_ hn_; have n0 := Aside0.mk (Kd.R_elder' HR1.out (Kd.R_base ho) hb); have n1 := Aside0.mk (Kd.R_lower (Kd.R_new' ho (Kd.R_lt HR1.out)) (below_size HB1.out)); have n2 := Aside0.mk (below_step HB1.out hb); clear HR1 HB1 ho hb; have HR1 := n0; have HO1 := n1; have HB1 := n2; clear n0 n1 n2; obtain ⟨Ao, co, eo⟩ := Kd.R_slice HO1.out; subst eo)
       | ((with_reducible refine gate_builtin (b := .append) (xs := #[.tmp 22, .tmp 34]) rfl ?_); at_builtin; refine Kd.R_append_rows (Kd.int .u8) (w0 := W) W.heap.size rfl (.tmp 22) (.tmp 34) 27 5 (.int .u8 0) 1 rfl Tryz.underlying27 info5 rfl (by decide) (by omega) u6 (outBytes [v0, v1, v2, v3, v4, v5, v6, v7] 1) (wordBytes v1) _ _ _ (fun k_ => some k_ ≠ (.slice Ao (wordBytes v1).length co : Value).ownBlock) (fun _ => False) rfl rfl (Kd.R_mono HR1.out (fun _ hk => hk.2)) (Kd.R_reads' HO1.out).2.2 (fun _ _ h => h) (fun _ h => h.elim) (fun k_ hk => Kd.fresh' (Kd.R_lt HO1.out) k_ hk) HB1.out (below_size HB1.out) (by simp [outBytes, wordBytes]) ?_; intro va wa ho hb hg_ hn_; clear hg_ hn_))
      go_roundw
      case rel => exact ⟨2, by omega, by go_num, ⟨Kd.R_mono ho (fun _ _ => trivial)⟩, ⟨hb⟩⟩
      case measure => simp [intOf]
     ·go_wp2_with (first
       | ((with_reducible refine gate_dst (N := 34) rfl ?_); refine Kd.R_lit (Kd.int .u8) _ 5 ?hg (N := 34) ?hd (xs := wordBytes v2) (inner := [.int .u8 (v2 / 16777216 % 256), .int .u8 (v2 / 65536 % 256), .int .u8 (v2 / 256 % 256), .int .u8 (v2 % 256)]) (ok := fun _ => True) (okp := fun _ => True) ?hr ?hp (fun _ hk => hk) trivial (Below.refl _ _) (Nat.le_refl _) (by simp [wordBytes]) ?_; (case hd => rfl); (case hg => rfl); (case hr => first | (go_simp; done) | (go_simp; rfl)); (case hp => exact Reps.one (show Kd.M (Kd.int .u8) _ _ _ (v2 / 16777216 % 256) [.int .u8 (v2 / 16777216 % 256)] from rfl) (Reps.one (show Kd.M (Kd.int .u8) _ _ _ (v2 / 65536 % 256) [.int .u8 (v2 / 65536 % 256)] from rfl) (Reps.one (show Kd.M (Kd.int .u8) _ _ _ (v2 / 256 % 256) [.int .u8 (v2 / 256 % 256)] from rfl) (Reps.one (show Kd.M (Kd.int .u8) _ _ _ (v2 % 256) [.int .u8 (v2 % 256)] from rfl) (Reps.none _ _))))); intro vl wl ho hb hg_ hn_; clear hg_ hn_; have n0 := Aside0.mk (Kd.R_elder' HR1.out (Kd.R_base ho) hb); have n1 := Aside0.mk (Kd.R_lower (Kd.R_new' ho (Kd.R_lt HR1.out)) (below_size HB1.out)); have n2 := Aside0.mk (below_step HB1.out hb); clear HR1 HB1 ho hb; have HR1 := n0; have HO1 := n1; have HB1 := n2; clear n0 n1 n2; obtain ⟨Ao, co, eo⟩ := Kd.R_slice HO1.out; subst eo)
       | ((with_reducible refine gate_builtin (b := .append) (xs := #[.tmp 22, .tmp 34]) rfl ?_); at_builtin; refine Kd.R_append_rows (Kd.int .u8) (w0 := W) W.heap.size rfl (.tmp 22) (.tmp 34) 27 5 (.int .u8 0) 1 rfl Tryz.underlying27 info5 rfl (by decide) (by omega) u6 (outBytes [v0, v1, v2, v3, v4, v5, v6, v7] 2) (wordBytes v2) _ _ _ (fun k_ => some k_ ≠ (.slice Ao (wordBytes v2).length co : Value).ownBlock) (fun _ => False) rfl rfl (Kd.R_mono HR1.out (fun _ hk => hk.2)) (Kd.R_reads' HO1.out).2.2 (fun _ _ h => h) (fun _ h => h.elim) (fun k_ hk => Kd.fresh' (Kd.R_lt HO1.out) k_ hk) HB1.out (below_size HB1.out) (by simp [outBytes, wordBytes]) ?_; intro va wa ho hb hg_ hn_; clear hg_ hn_))
      go_roundw
      case rel => exact ⟨3, by omega, by go_num, ⟨Kd.R_mono ho (fun _ _ => trivial)⟩, ⟨hb⟩⟩
      case measure => simp [intOf]
     ·go_wp2_with (first
       | ((with_reducible refine gate_dst (N := 34) rfl ?_); refine Kd.R_lit (Kd.int .u8) _ 5 ?hg (N := 34) ?hd (xs := wordBytes v3) (inner := [.int .u8 (v3 / 16777216 % 256), .int .u8 (v3 / 65536 % 256), .int .u8 (v3 / 256 % 256), .int .u8 (v3 % 256)]) (ok := fun _ => True) (okp := fun _ => True) ?hr ?hp (fun _ hk => hk) trivial (Below.refl _ _) (Nat.le_refl _) (by simp [wordBytes]) ?_; (case hd => rfl); (case hg => rfl); (case hr => first | (go_simp; done) | (go_simp; rfl)); (case hp => exact Reps.one (show Kd.M (Kd.int .u8) _ _ _ (v3 / 16777216 % 256) [.int .u8 (v3 / 16777216 % 256)] from rfl) (Reps.one (show Kd.M (Kd.int .u8) _ _ _ (v3 / 65536 % 256) [.int .u8 (v3 / 65536 % 256)] from rfl) (Reps.one (show Kd.M (Kd.int .u8) _ _ _ (v3 / 256 % 256) [.int .u8 (v3 / 256 % 256)] from rfl) (Reps.one (show Kd.M (Kd.int .u8) _ _ _ (v3 % 256) [.int .u8 (v3 % 256)] from rfl) (Reps.none _ _))))); intro vl wl ho hb hg_ hn_; clear hg_ hn_; have n0 := Aside0.mk (Kd.R_elder' HR1.out (Kd.R_base ho) hb); have n1 := Aside0.mk (Kd.R_lower (Kd.R_new' ho (Kd.R_lt HR1.out)) (below_size HB1.out)); have n2 := Aside0.mk (below_step HB1.out hb); clear HR1 HB1 ho hb; have HR1 := n0; have HO1 := n1; have HB1 := n2; clear n0 n1 n2; obtain ⟨Ao, co, eo⟩ := Kd.R_slice HO1.out; subst eo)
       | ((with_reducible refine gate_builtin (b := .append) (xs := #[.tmp 22, .tmp 34]) rfl ?_); at_builtin; refine Kd.R_append_rows (Kd.int .u8) (w0 := W) W.heap.size rfl (.tmp 22) (.tmp 34) 27 5 (.int .u8 0) 1 rfl Tryz.underlying27 info5 rfl (by decide) (by omega) u6 (outBytes [v0, v1, v2, v3, v4, v5, v6, v7] 3) (wordBytes v3) _ _ _ (fun k_ => some k_ ≠ (.slice Ao (wordBytes v3).length co : Value).ownBlock) (fun _ => False) rfl rfl (Kd.R_mono HR1.out (fun _ hk => hk.2)) (Kd.R_reads' HO1.out).2.2 (fun _ _ h => h) (fun _ h => h.elim) (fun k_ hk => Kd.fresh' (Kd.R_lt HO1.out) k_ hk) HB1.out (below_size HB1.out) (by simp [outBytes, wordBytes]) ?_; intro va wa ho hb hg_ hn_; clear hg_ hn_))
      go_roundw
      case rel => exact ⟨4, by omega, by go_num, ⟨Kd.R_mono ho (fun _ _ => trivial)⟩, ⟨hb⟩⟩
      case measure => simp [intOf]
     ·go_wp2_with (first
       | ((with_reducible refine gate_dst (N := 34) rfl ?_); refine Kd.R_lit (Kd.int .u8) _ 5 ?hg (N := 34) ?hd (xs := wordBytes v4) (inner := [.int .u8 (v4 / 16777216 % 256), .int .u8 (v4 / 65536 % 256), .int .u8 (v4 / 256 % 256), .int .u8 (v4 % 256)]) (ok := fun _ => True) (okp := fun _ => True) ?hr ?hp (fun _ hk => hk) trivial (Below.refl _ _) (Nat.le_refl _) (by simp [wordBytes]) ?_; (case hd => rfl); (case hg => rfl); (case hr => first | (go_simp; done) | (go_simp; rfl)); (case hp => exact Reps.one (show Kd.M (Kd.int .u8) _ _ _ (v4 / 16777216 % 256) [.int .u8 (v4 / 16777216 % 256)] from rfl) (Reps.one (show Kd.M (Kd.int .u8) _ _ _ (v4 / 65536 % 256) [.int .u8 (v4 / 65536 % 256)] from rfl) (Reps.one (show Kd.M (Kd.int .u8) _ _ _ (v4 / 256 % 256) [.int .u8 (v4 / 256 % 256)] from rfl) (Reps.one (show Kd.M (Kd.int .u8) _ _ _ (v4 % 256) [.int .u8 (v4 % 256)] from rfl) (Reps.none _ _))))); intro vl wl ho hb hg_ hn_; clear hg_ hn_; have n0 := Aside0.mk (Kd.R_elder' HR1.out (Kd.R_base ho) hb); have n1 := Aside0.mk (Kd.R_lower (Kd.R_new' ho (Kd.R_lt HR1.out)) (below_size HB1.out)); have n2 := Aside0.mk (below_step HB1.out hb); clear HR1 HB1 ho hb; have HR1 := n0; have HO1 := n1; have HB1 := n2; clear n0 n1 n2; obtain ⟨Ao, co, eo⟩ := Kd.R_slice HO1.out; subst eo)
       | ((with_reducible refine gate_builtin (b := .append) (xs := #[.tmp 22, .tmp 34]) rfl ?_); at_builtin; refine Kd.R_append_rows (Kd.int .u8) (w0 := W) W.heap.size rfl (.tmp 22) (.tmp 34) 27 5 (.int .u8 0) 1 rfl Tryz.underlying27 info5 rfl (by decide) (by omega) u6 (outBytes [v0, v1, v2, v3, v4, v5, v6, v7] 4) (wordBytes v4) _ _ _ (fun k_ => some k_ ≠ (.slice Ao (wordBytes v4).length co : Value).ownBlock) (fun _ => False) rfl rfl (Kd.R_mono HR1.out (fun _ hk => hk.2)) (Kd.R_reads' HO1.out).2.2 (fun _ _ h => h) (fun _ h => h.elim) (fun k_ hk => Kd.fresh' (Kd.R_lt HO1.out) k_ hk) HB1.out (below_size HB1.out) (by simp [outBytes, wordBytes]) ?_; intro va wa ho hb hg_ hn_; clear hg_ hn_))
      go_roundw
      case rel => exact ⟨5, by omega, by go_num, ⟨Kd.R_mono ho (fun _ _ => trivial)⟩, ⟨hb⟩⟩
      case measure => simp [intOf]
     ·go_wp2_with (first
       | ((with_reducible refine gate_dst (N := 34) rfl ?_); refine Kd.R_lit (Kd.int .u8) _ 5 ?hg (N := 34) ?hd (xs := wordBytes v5) (inner := [.int .u8 (v5 / 16777216 % 256), .int .u8 (v5 / 65536 % 256), .int .u8 (v5 / 256 % 256), .int .u8 (v5 % 256)]) (ok := fun _ => True) (okp := fun _ => True) ?hr ?hp (fun _ hk => hk) trivial (Below.refl _ _) (Nat.le_refl _) (by simp [wordBytes]) ?_; (case hd => rfl); (case hg => rfl); (case hr => first | (go_simp; done) | (go_simp; rfl)); (case hp => exact Reps.one (show Kd.M (Kd.int .u8) _ _ _ (v5 / 16777216 % 256) [.int .u8 (v5 / 16777216 % 256)] from rfl) (Reps.one (show Kd.M (Kd.int .u8) _ _ _ (v5 / 65536 % 256) [.int .u8 (v5 / 65536 % 256)] from rfl) (Reps.one (show Kd.M (Kd.int .u8) _ _ _ (v5 / 256 % 256) [.int .u8 (v5 / 256 % 256)] from rfl) (Reps.one (show Kd.M (Kd.int .u8) _ _ _ (v5 % 256) [.int .u8 (v5 % 256)] from rfl) (Reps.none _ _))))); intro vl wl ho hb hg_ hn_; clear hg_ hn_; have n0 := Aside0.mk (Kd.R_elder' HR1.out (Kd.R_base ho) hb); have n1 := Aside0.mk (Kd.R_lower (Kd.R_new' ho (Kd.R_lt HR1.out)) (below_size HB1.out)); have n2 := Aside0.mk (below_step HB1.out hb); clear HR1 HB1 ho hb; have HR1 := n0; have HO1 := n1; have HB1 := n2; clear n0 n1 n2; obtain ⟨Ao, co, eo⟩ := Kd.R_slice HO1.out; subst eo)
       | ((with_reducible refine gate_builtin (b := .append) (xs := #[.tmp 22, .tmp 34]) rfl ?_); at_builtin; refine Kd.R_append_rows (Kd.int .u8) (w0 := W) W.heap.size rfl (.tmp 22) (.tmp 34) 27 5 (.int .u8 0) 1 rfl Tryz.underlying27 info5 rfl (by decide) (by omega) u6 (outBytes [v0, v1, v2, v3, v4, v5, v6, v7] 5) (wordBytes v5) _ _ _ (fun k_ => some k_ ≠ (.slice Ao (wordBytes v5).length co : Value).ownBlock) (fun _ => False) rfl rfl (Kd.R_mono HR1.out (fun _ hk => hk.2)) (Kd.R_reads' HO1.out).2.2 (fun _ _ h => h) (fun _ h => h.elim) (fun k_ hk => Kd.fresh' (Kd.R_lt HO1.out) k_ hk) HB1.out (below_size HB1.out) (by simp [outBytes, wordBytes]) ?_; intro va wa ho hb hg_ hn_; clear hg_ hn_))
      go_roundw
      case rel => exact ⟨6, by omega, by go_num, ⟨Kd.R_mono ho (fun _ _ => trivial)⟩, ⟨hb⟩⟩
      case measure => simp [intOf]
     ·go_wp2_with (first
       | ((with_reducible refine gate_dst (N := 34) rfl ?_); refine Kd.R_lit (Kd.int .u8) _ 5 ?hg (N := 34) ?hd (xs := wordBytes v6) (inner := [.int .u8 (v6 / 16777216 % 256), .int .u8 (v6 / 65536 % 256), .int .u8 (v6 / 256 % 256), .int .u8 (v6 % 256)]) (ok := fun _ => True) (okp := fun _ => True) ?hr ?hp (fun _ hk => hk) trivial (Below.refl _ _) (Nat.le_refl _) (by simp [wordBytes]) ?_; (case hd => rfl); (case hg => rfl); (case hr => first | (go_simp; done) | (go_simp; rfl)); (case hp => exact Reps.one (show Kd.M (Kd.int .u8) _ _ _ (v6 / 16777216 % 256) [.int .u8 (v6 / 16777216 % 256)] from rfl) (Reps.one (show Kd.M (Kd.int .u8) _ _ _ (v6 / 65536 % 256) [.int .u8 (v6 / 65536 % 256)] from rfl) (Reps.one (show Kd.M (Kd.int .u8) _ _ _ (v6 / 256 % 256) [.int .u8 (v6 / 256 % 256)] from rfl) (Reps.one (show Kd.M (Kd.int .u8) _ _ _ (v6 % 256) [.int .u8 (v6 % 256)] from rfl) (Reps.none _ _))))); intro vl wl ho hb hg_ hn_; clear hg_ hn_; have n0 := Aside0.mk (Kd.R_elder' HR1.out (Kd.R_base ho) hb); have n1 := Aside0.mk (Kd.R_lower (Kd.R_new' ho (Kd.R_lt HR1.out)) (below_size HB1.out)); have n2 := Aside0.mk (below_step HB1.out hb); clear HR1 HB1 ho hb; have HR1 := n0; have HO1 := n1; have HB1 := n2; clear n0 n1 n2; obtain ⟨Ao, co, eo⟩ := Kd.R_slice HO1.out; subst eo)
       | ((with_reducible refine gate_builtin (b := .append) (xs := #[.tmp 22, .tmp 34]) rfl ?_); at_builtin; refine Kd.R_append_rows (Kd.int .u8) (w0 := W) W.heap.size rfl (.tmp 22) (.tmp 34) 27 5 (.int .u8 0) 1 rfl Tryz.underlying27 info5 rfl (by decide) (by omega) u6 (outBytes [v0, v1, v2, v3, v4, v5, v6, v7] 6) (wordBytes v6) _ _ _ (fun k_ => some k_ ≠ (.slice Ao (wordBytes v6).length co : Value).ownBlock) (fun _ => False) rfl rfl (Kd.R_mono HR1.out (fun _ hk => hk.2)) (Kd.R_reads' HO1.out).2.2 (fun _ _ h => h) (fun _ h => h.elim) (fun k_ hk => Kd.fresh' (Kd.R_lt HO1.out) k_ hk) HB1.out (below_size HB1.out) (by simp [outBytes, wordBytes]) ?_; intro va wa ho hb hg_ hn_; clear hg_ hn_))
      go_roundw
      case rel => exact ⟨7, by omega, by go_num, ⟨Kd.R_mono ho (fun _ _ => trivial)⟩, ⟨hb⟩⟩
      case measure => simp [intOf]
     ·go_wp2_with (first
       | ((with_reducible refine gate_dst (N := 34) rfl ?_); refine Kd.R_lit (Kd.int .u8) _ 5 ?hg (N := 34) ?hd (xs := wordBytes v7) (inner := [.int .u8 (v7 / 16777216 % 256), .int .u8 (v7 / 65536 % 256), .int .u8 (v7 / 256 % 256), .int .u8 (v7 % 256)]) (ok := fun _ => True) (okp := fun _ => True) ?hr ?hp (fun _ hk => hk) trivial (Below.refl _ _) (Nat.le_refl _) (by simp [wordBytes]) ?_; (case hd => rfl); (case hg => rfl); (case hr => first | (go_simp; done) | (go_simp; rfl)); (case hp => exact Reps.one (show Kd.M (Kd.int .u8) _ _ _ (v7 / 16777216 % 256) [.int .u8 (v7 / 16777216 % 256)] from rfl) (Reps.one (show Kd.M (Kd.int .u8) _ _ _ (v7 / 65536 % 256) [.int .u8 (v7 / 65536 % 256)] from rfl) (Reps.one (show Kd.M (Kd.int .u8) _ _ _ (v7 / 256 % 256) [.int .u8 (v7 / 256 % 256)] from rfl) (Reps.one (show Kd.M (Kd.int .u8) _ _ _ (v7 % 256) [.int .u8 (v7 % 256)] from rfl) (Reps.none _ _))))); intro vl wl ho hb hg_ hn_; clear hg_ hn_; have n0 := Aside0.mk (Kd.R_elder' HR1.out (Kd.R_base ho) hb); have n1 := Aside0.mk (Kd.R_lower (Kd.R_new' ho (Kd.R_lt HR1.out)) (below_size HB1.out)); have n2 := Aside0.mk (below_step HB1.out hb); clear HR1 HB1 ho hb; have HR1 := n0; have HO1 := n1; have HB1 := n2; clear n0 n1 n2; obtain ⟨Ao, co, eo⟩ := Kd.R_slice HO1.out; subst eo)
       | ((with_reducible refine gate_builtin (b := .append) (xs := #[.tmp 22, .tmp 34]) rfl ?_); at_builtin; refine Kd.R_append_rows (Kd.int .u8) (w0 := W) W.heap.size rfl (.tmp 22) (.tmp 34) 27 5 (.int .u8 0) 1 rfl Tryz.underlying27 info5 rfl (by decide) (by omega) u6 (outBytes [v0, v1, v2, v3, v4, v5, v6, v7] 7) (wordBytes v7) _ _ _ (fun k_ => some k_ ≠ (.slice Ao (wordBytes v7).length co : Value).ownBlock) (fun _ => False) rfl rfl (Kd.R_mono HR1.out (fun _ hk => hk.2)) (Kd.R_reads' HO1.out).2.2 (fun _ _ h => h) (fun _ h => h.elim) (fun k_ hk => Kd.fresh' (Kd.R_lt HO1.out) k_ hk) HB1.out (below_size HB1.out) (by simp [outBytes, wordBytes]) ?_; intro va wa ho hb hg_ hn_; clear hg_ hn_))
      go_roundw
      case rel => exact ⟨8, by omega, by go_num, ⟨Kd.R_mono ho (fun _ _ => trivial)⟩, ⟨hb⟩⟩
      case measure => simp [intOf]
    ·obtain rfl : k = 8 := by omega
     have b20 : decide (((8 : Nat) : Int) < 8) = false := by decide
     have hcv := own_string (P := Tryz.prog) Tryz.underlying27 Tryz.underlying5 Tryz.underlying9 (Kd.own_of_R HR1.out)
     go_wp2
     have hK' : wr.heap[D]? = some (.deferred (some [])) := (HB1.out.block D (Array.getElem?_eq_some_iff.1 HKD.out).1).trans HKD.out
     refine ⟨by simp, .inl ⟨_, _, rfl, run_takeDeferred hK', ?_⟩⟩
     have hsha : sha l0 = strOfNums (outBytes [v0, v1, v2, v3, v4, v5, v6, v7] 8) := by
      rw [sha, shaBytes, HV.out]
     have hBz : Below w.heap.size w (wr.putObj D (.deferred none)) := by
      have hsz := HBB.out.size
      have hD := HD.out
      have h1 : Below w.heap.size w wr := HBB.out.trans (HB1.out.mono hsz)
      have h2 := HL.out.2
      have h3 := HB3.out.size
      have h4 := HS4.out
      exact h1.trans (belowK_b (w := w) (Nat.le_refl _) wr D _ _ (by omega) hK' rfl rfl)
     rw [hsha]
     refine ⟨.string (strOfNums (outBytes [v0, v1, v2, v3, v4, v5, v6, v7] 8)), ?_, rfl, hBz⟩
     simp [results, Tryz.f133, go_sem]
 ·rw [if_neg hl] at h
  cases h
end Go.Proofs.YtnlndmoecljicaaGreat.Q
end
section
namespace Go.Proofs.YtnlndmoecljicaaGreat.Q
open Go.RowKit Go.Proofs.YtnlndmoecljicaaGreatW.PrintWords Go.Proofs.YtnlndmoecljicaaGreatW.PrintLast Go.Proofs.YtnlndmoecljicaaGreatW.PrintMore
attribute [local go_sem] max2_int min2_int max_two min_two max_three min_three max_four min_four   -- for this text's walks alone
set_option linter.unusedVariables false
set_option linter.unusedSimpArgs false
def impl_NodeHash.f (a0 : ByteArray) (a1 : ByteArray) : Option (ByteArray) := (some (([1] : List Int) : List Int)).bind fun y601 => (if y601.length + a0.size < 140737488355328 then ((some (y601 ++ bytesOf a0 : List Int)).bind fun y604 => (if y604.length + a1.size < 140737488355328 then ((impl_Digest.f (y604 ++ bytesOf a1)).bind fun t610 => (some t610)) else (none))) else (none))
set_option maxHeartbeats 8000000 in
set_option maxRecDepth 100000 in
theorem impl_NodeHash.calls (a0 : ByteArray) (a1 : ByteArray) (r : ByteArray) (w : World) (h : impl_NodeHash.f a0 a1 = some r) :
  Calls Tryz.prog 136 #[.string a0, .string a1] w fun e w' => e = .returned (.string r) ∧ Below w.heap.size w w' := by
 have HB := Aside0.mk (Below.refl w.heap.size w)
 have H : ((some (([1] : List Int) : List Int)).bind fun y601 => (if y601.length + a0.size < 140737488355328 then ((some (y601 ++ bytesOf a0 : List Int)).bind fun y604 => (if y604.length + a1.size < 140737488355328 then ((impl_Digest.f (y604 ++ bytesOf a1)).bind fun t610 => (some t610)) else (none))) else (none))) = some r := h
 clear h
 obtain ⟨y601, Ny601, H⟩ := sb_ (([1] : List Int)) H
 replace H := ip_ H; obtain ⟨c3, H⟩ := H
 have LMc3 := Aside0.mk c3
 clear c3
 obtain ⟨y604, Ny604, H⟩ := sb_ (y601 ++ bytesOf a0) H
 replace H := ip_ H; obtain ⟨c4, H⟩ := H
 have LMc4 := Aside0.mk c4
 clear c4
 obtain ⟨y607, hy607⟩ : ∃ y_ : List Int, y_ = (y604 ++ bytesOf a1) := ⟨_, rfl⟩
 replace H : ((impl_Digest.f y607).bind fun t610 => (some t610)) = some r := yh_ hy607 H
 have Ny607 := Aside0.mk hy607
 clear hy607
 replace H := bi_ H; obtain ⟨t610, A5, H⟩ := H
 obtain rfl := Option.some.inj H
 go_enter Tryz.func136, Tryz.ntmps136
 go_wp2_with (first | ((with_reducible refine gd_ 5 ?_); refine rl_ (Kd.int .u8) 5 5 ([1] : List Int) [.int .u8 1] ?_; intro v602 w6 ho7 hb hg_ hnew_; clear hg_ hnew_; (first | rw [← Ny601.out] at ho7 | (simp only [Int.reduceToNat] at ho7; rw [← Ny601.out] at ho7)); have HO603 := Aside0.mk (Kd.R_lower ho7 (sz_ HB)); replace HB := ss_ HB hb; clear hb ho7) | (at_builtin; refine print_append_str (w0 := w) w.heap.size rfl (.tmp 5) _ 27 9 5 rfl Tryz.underlying27 Tryz.underlying9 info5 v602 y601 a0 rfl rfl ?aO ?aB ?aS ?aL ?_; (case aB => exact (bw_ HB)); (case aO => exact (Kd.own_of_R (kr_ HO603.out))); (case aS => exact (sz_ HB)); (case aL => have := LMc3.out; omega); intro v605 w8 ho0 hb hg; have ho := Kd.R_of_own (h1 := fun _ => rfl) (ok := fun _ => True) ho0 (fun _ _ => trivial); clear ho0; have hat := True.intro; rw [← Ny604.out] at ho; change Kd.R (Kd.int .u8) 5 w8 w.heap.size (fun _ => True) v605 y604 at ho; replace HB := Aside0.mk hb; have HO606 := Aside0.mk ho; clear HO603; clear ho hb hg hat) | (at_builtin; refine print_append_str (w0 := w) w.heap.size rfl (.tmp 7) _ 27 9 5 rfl Tryz.underlying27 Tryz.underlying9 info5 v605 y604 a1 rfl rfl ?aO ?aB ?aS ?aL ?_; (case aB => exact (bw_ HB)); (case aO => exact (Kd.own_of_R (kr_ HO606.out))); (case aS => exact (sz_ HB)); (case aL => have := LMc4.out; omega); intro v608 w9 ho0 hb hg; have ho := Kd.R_of_own (h1 := fun _ => rfl) (ok := fun _ => True) ho0 (fun _ _ => trivial); clear ho0; have hat := True.intro; rw [← Ny607.out] at ho; change Kd.R (Kd.int .u8) 5 w9 w.heap.size (fun _ => True) v608 y607 at ho; replace HB := Aside0.mk hb; have HO609 := Aside0.mk ho; clear HO606; clear ho hb hg hat; obtain ⟨Ao10, co10, eo10⟩ := Kd.R_slice HO609.out; subst eo10) | ((with_reducible refine gq_ 133 10 ?_); refine gc_ 10 Tryz.func133 (impl_Digest.calls _ _ y607 t610 _ (ch_ HO609) (cl_ HO609) A5.out) ?_; rintro e w11 ⟨rfl, hb⟩; refine ⟨_, rfl, ?_⟩; replace HO609 := rb_ HO609 hb; replace HB := ss_ HB hb; clear hb))
 go_ret
 exact ⟨e2_, bw_ HB⟩
def spec_NodeHash.f (k : Nat) (a0 : ByteArray) (a1 : ByteArray) : Option (ByteArray) := (some (([1] : List Int) : List Int)).bind fun y601 => (if y601.length + a0.size < 140737488355328 then ((some (y601 ++ bytesOf a0 : List Int)).bind fun y604 => (if y604.length + a1.size < 140737488355328 then ((spec_Digest.f k (y604 ++ bytesOf a1)).bind fun t610 => (some t610)) else (none))) else (none))
set_option maxHeartbeats 8000000 in
set_option maxRecDepth 100000 in
theorem spec_NodeHash.calls (k : Nat) (a0 : ByteArray) (a1 : ByteArray) (r : ByteArray) (w : World) (h : spec_NodeHash.f k a0 a1 = some r) :
  Calls Tryz.prog 162 #[.string a0, .string a1] w fun e w' => e = .returned (.string r) ∧ Below w.heap.size w w' := by
 have HB := Aside0.mk (Below.refl w.heap.size w)
 have H : ((some (([1] : List Int) : List Int)).bind fun y601 => (if y601.length + a0.size < 140737488355328 then ((some (y601 ++ bytesOf a0 : List Int)).bind fun y604 => (if y604.length + a1.size < 140737488355328 then ((spec_Digest.f k (y604 ++ bytesOf a1)).bind fun t610 => (some t610)) else (none))) else (none))) = some r := h
 clear h
 obtain ⟨y601, Ny601, H⟩ := sb_ (([1] : List Int)) H
 replace H := ip_ H; obtain ⟨c3, H⟩ := H
 have LMc3 := Aside0.mk c3
 clear c3
 obtain ⟨y604, Ny604, H⟩ := sb_ (y601 ++ bytesOf a0) H
 replace H := ip_ H; obtain ⟨c4, H⟩ := H
 have LMc4 := Aside0.mk c4
 clear c4
 obtain ⟨y607, hy607⟩ : ∃ y_ : List Int, y_ = (y604 ++ bytesOf a1) := ⟨_, rfl⟩
 replace H : ((spec_Digest.f k y607).bind fun t610 => (some t610)) = some r := yh_ hy607 H
 have Ny607 := Aside0.mk hy607
 clear hy607
 replace H := bi_ H; obtain ⟨t610, A5, H⟩ := H
 obtain rfl := Option.some.inj H
 go_enter Tryz.func162, Tryz.ntmps162
 go_wp2_with (first | ((with_reducible refine gd_ 5 ?_); refine rl_ (Kd.int .u8) 5 5 ([1] : List Int) [.int .u8 1] ?_; intro v602 w6 ho7 hb hg_ hnew_; clear hg_ hnew_; (first | rw [← Ny601.out] at ho7 | (simp only [Int.reduceToNat] at ho7; rw [← Ny601.out] at ho7)); have HO603 := Aside0.mk (Kd.R_lower ho7 (sz_ HB)); replace HB := ss_ HB hb; clear hb ho7) | (at_builtin; refine print_append_str (w0 := w) w.heap.size rfl (.tmp 5) _ 27 9 5 rfl Tryz.underlying27 Tryz.underlying9 info5 v602 y601 a0 rfl rfl ?aO ?aB ?aS ?aL ?_; (case aB => exact (bw_ HB)); (case aO => exact (Kd.own_of_R (kr_ HO603.out))); (case aS => exact (sz_ HB)); (case aL => have := LMc3.out; omega); intro v605 w8 ho0 hb hg; have ho := Kd.R_of_own (h1 := fun _ => rfl) (ok := fun _ => True) ho0 (fun _ _ => trivial); clear ho0; have hat := True.intro; rw [← Ny604.out] at ho; change Kd.R (Kd.int .u8) 5 w8 w.heap.size (fun _ => True) v605 y604 at ho; replace HB := Aside0.mk hb; have HO606 := Aside0.mk ho; clear HO603; clear ho hb hg hat) | (at_builtin; refine print_append_str (w0 := w) w.heap.size rfl (.tmp 7) _ 27 9 5 rfl Tryz.underlying27 Tryz.underlying9 info5 v605 y604 a1 rfl rfl ?aO ?aB ?aS ?aL ?_; (case aB => exact (bw_ HB)); (case aO => exact (Kd.own_of_R (kr_ HO606.out))); (case aS => exact (sz_ HB)); (case aL => have := LMc4.out; omega); intro v608 w9 ho0 hb hg; have ho := Kd.R_of_own (h1 := fun _ => rfl) (ok := fun _ => True) ho0 (fun _ _ => trivial); clear ho0; have hat := True.intro; rw [← Ny607.out] at ho; change Kd.R (Kd.int .u8) 5 w9 w.heap.size (fun _ => True) v608 y607 at ho; replace HB := Aside0.mk hb; have HO609 := Aside0.mk ho; clear HO606; clear ho hb hg hat; obtain ⟨Ao10, co10, eo10⟩ := Kd.R_slice HO609.out; subst eo10) | ((with_reducible refine gq_ 119 10 ?_); refine gc_ 10 Tryz.func119 (spec_Digest.calls k _ _ y607 t610 _ (ch_ HO609) (cl_ HO609) A5.out) ?_; rintro e w11 ⟨rfl, hb⟩; refine ⟨_, rfl, ?_⟩; replace HO609 := rb_ HO609 hb; replace HB := ss_ HB hb; clear hb))
 go_ret
 exact ⟨e2_, bw_ HB⟩
def impl_LeafHash.f (a0 : ByteArray) : Option (ByteArray) := (some (([0] : List Int) : List Int)).bind fun y601 => (if y601.length + a0.size < 140737488355328 then ((impl_Digest.f (y601 ++ bytesOf a0)).bind fun t607 => (some t607)) else (none))
set_option maxHeartbeats 8000000 in
set_option maxRecDepth 100000 in
theorem impl_LeafHash.calls (a0 : ByteArray) (r : ByteArray) (w : World) (h : impl_LeafHash.f a0 = some r) :
  Calls Tryz.prog 134 #[.string a0] w fun e w' => e = .returned (.string r) ∧ Below w.heap.size w w' := by
 have HB := Aside0.mk (Below.refl w.heap.size w)
 have H : ((some (([0] : List Int) : List Int)).bind fun y601 => (if y601.length + a0.size < 140737488355328 then ((impl_Digest.f (y601 ++ bytesOf a0)).bind fun t607 => (some t607)) else (none))) = some r := h
 clear h
 obtain ⟨y601, Ny601, H⟩ := sb_ (([0] : List Int)) H
 replace H := ip_ H; obtain ⟨c2, H⟩ := H
 have LMc2 := Aside0.mk c2
 clear c2
 obtain ⟨y604, hy604⟩ : ∃ y_ : List Int, y_ = (y601 ++ bytesOf a0) := ⟨_, rfl⟩
 replace H : ((impl_Digest.f y604).bind fun t607 => (some t607)) = some r := yh_ hy604 H
 have Ny604 := Aside0.mk hy604
 clear hy604
 replace H := bi_ H; obtain ⟨t607, A3, H⟩ := H
 obtain rfl := Option.some.inj H
 go_enter Tryz.func134, Tryz.ntmps134
 go_wp2_with (first | ((with_reducible refine gd_ 3 ?_); refine rl_ (Kd.int .u8) 5 3 ([0] : List Int) [.int .u8 0] ?_; intro v602 w4 ho5 hb hg_ hnew_; clear hg_ hnew_; (first | rw [← Ny601.out] at ho5 | (simp only [Int.reduceToNat] at ho5; rw [← Ny601.out] at ho5)); have HO603 := Aside0.mk (Kd.R_lower ho5 (sz_ HB)); replace HB := ss_ HB hb; clear hb ho5) | (at_builtin; refine print_append_str (w0 := w) w.heap.size rfl (.tmp 3) _ 27 9 5 rfl Tryz.underlying27 Tryz.underlying9 info5 v602 y601 a0 rfl rfl ?aO ?aB ?aS ?aL ?_; (case aB => exact (bw_ HB)); (case aO => exact (Kd.own_of_R (kr_ HO603.out))); (case aS => exact (sz_ HB)); (case aL => have := LMc2.out; omega); intro v605 w6 ho0 hb hg; have ho := Kd.R_of_own (h1 := fun _ => rfl) (ok := fun _ => True) ho0 (fun _ _ => trivial); clear ho0; have hat := True.intro; rw [← Ny604.out] at ho; change Kd.R (Kd.int .u8) 5 w6 w.heap.size (fun _ => True) v605 y604 at ho; replace HB := Aside0.mk hb; have HO606 := Aside0.mk ho; clear HO603; clear ho hb hg hat; obtain ⟨Ao7, co7, eo7⟩ := Kd.R_slice HO606.out; subst eo7) | ((with_reducible refine gq_ 133 6 ?_); refine gc_ 6 Tryz.func133 (impl_Digest.calls _ _ y604 t607 _ (ch_ HO606) (cl_ HO606) A3.out) ?_; rintro e w8 ⟨rfl, hb⟩; refine ⟨_, rfl, ?_⟩; replace HO606 := rb_ HO606 hb; replace HB := ss_ HB hb; clear hb))
 go_ret
 exact ⟨e2_, bw_ HB⟩
def spec_LeafHash.f (k : Nat) (a0 : ByteArray) : Option (ByteArray) := (some (([0] : List Int) : List Int)).bind fun y601 => (if y601.length + a0.size < 140737488355328 then ((spec_Digest.f k (y601 ++ bytesOf a0)).bind fun t607 => (some t607)) else (none))
set_option maxHeartbeats 8000000 in
set_option maxRecDepth 100000 in
theorem spec_LeafHash.calls (k : Nat) (a0 : ByteArray) (r : ByteArray) (w : World) (h : spec_LeafHash.f k a0 = some r) :
  Calls Tryz.prog 160 #[.string a0] w fun e w' => e = .returned (.string r) ∧ Below w.heap.size w w' := by
 have HB := Aside0.mk (Below.refl w.heap.size w)
 have H : ((some (([0] : List Int) : List Int)).bind fun y601 => (if y601.length + a0.size < 140737488355328 then ((spec_Digest.f k (y601 ++ bytesOf a0)).bind fun t607 => (some t607)) else (none))) = some r := h
 clear h
 obtain ⟨y601, Ny601, H⟩ := sb_ (([0] : List Int)) H
 replace H := ip_ H; obtain ⟨c2, H⟩ := H
 have LMc2 := Aside0.mk c2
 clear c2
 obtain ⟨y604, hy604⟩ : ∃ y_ : List Int, y_ = (y601 ++ bytesOf a0) := ⟨_, rfl⟩
 replace H : ((spec_Digest.f k y604).bind fun t607 => (some t607)) = some r := yh_ hy604 H
 have Ny604 := Aside0.mk hy604
 clear hy604
 replace H := bi_ H; obtain ⟨t607, A3, H⟩ := H
 obtain rfl := Option.some.inj H
 go_enter Tryz.func160, Tryz.ntmps160
 go_wp2_with (first | ((with_reducible refine gd_ 3 ?_); refine rl_ (Kd.int .u8) 5 3 ([0] : List Int) [.int .u8 0] ?_; intro v602 w4 ho5 hb hg_ hnew_; clear hg_ hnew_; (first | rw [← Ny601.out] at ho5 | (simp only [Int.reduceToNat] at ho5; rw [← Ny601.out] at ho5)); have HO603 := Aside0.mk (Kd.R_lower ho5 (sz_ HB)); replace HB := ss_ HB hb; clear hb ho5) | (at_builtin; refine print_append_str (w0 := w) w.heap.size rfl (.tmp 3) _ 27 9 5 rfl Tryz.underlying27 Tryz.underlying9 info5 v602 y601 a0 rfl rfl ?aO ?aB ?aS ?aL ?_; (case aB => exact (bw_ HB)); (case aO => exact (Kd.own_of_R (kr_ HO603.out))); (case aS => exact (sz_ HB)); (case aL => have := LMc2.out; omega); intro v605 w6 ho0 hb hg; have ho := Kd.R_of_own (h1 := fun _ => rfl) (ok := fun _ => True) ho0 (fun _ _ => trivial); clear ho0; have hat := True.intro; rw [← Ny604.out] at ho; change Kd.R (Kd.int .u8) 5 w6 w.heap.size (fun _ => True) v605 y604 at ho; replace HB := Aside0.mk hb; have HO606 := Aside0.mk ho; clear HO603; clear ho hb hg hat; obtain ⟨Ao7, co7, eo7⟩ := Kd.R_slice HO606.out; subst eo7) | ((with_reducible refine gq_ 119 6 ?_); refine gc_ 6 Tryz.func119 (spec_Digest.calls k _ _ y604 t607 _ (ch_ HO606) (cl_ HO606) A3.out) ?_; rintro e w8 ⟨rfl, hb⟩; refine ⟨_, rfl, ?_⟩; replace HO606 := rb_ HO606 hb; replace HB := ss_ HB hb; clear hb))
 go_ret
 exact ⟨e2_, bw_ HB⟩
def impl_half.l0 : Nat → Int → Int → Option (Int)
 | 0, _, _ => none
 | k + 1, x0, x3 => if (wrap64 (2 * x3)) < x0 then (impl_half.l0 k x0 (wrap64 (x3 * 2))) else (some x3)
def impl_half.f (k : Nat) (a0 : Int) : Option (Int) := impl_half.l0 k a0 1
set_option maxHeartbeats 8000000 in
set_option maxRecDepth 100000 in
theorem impl_half.calls (k : Nat) (a0 : Int) (r : Int) (w : World) (h : impl_half.f k a0 = some r) :
  Calls Tryz.prog 135 #[.int .i64 a0] w fun e w' => e = .returned (.int .i64 r) ∧ Below w.heap.size w w' := by
 have HB := Aside0.mk (Below.refl w.heap.size w)
 have H : (impl_half.l0 k a0 1) = some r := h
 clear h
 have H' := Aside0.mk H
 clear H
 go_enter Tryz.func135, Tryz.ntmps135
 go_wp2
 go_loopg [3] k (fun kq v3 w' => ∃ (x3_1 : Int), v3 = .int .i64 x3_1 ∧ Aside0 (impl_half.l0 kq a0 x3_1 = some r) ∧ Aside0 (kq ≤ k) ∧ Aside0 (Below w.heap.size w w'))
 case atStart => exact ⟨(1), e1_, H', ⟨Nat.le_refl _⟩, ⟨bw_ HB⟩⟩
 case round =>
  clear H'
  obtain ⟨x3_1, rfl, HA, HK1, HB⟩ := hrel
  cases gk with
  | zero => exact absurd HA.out (by simp [impl_half.l0])
  | succ k1 =>
   have H := HA.out
   clear HA
   simp only [impl_half.l0] at H
   replace H := itd_ H; obtain ⟨c2b0, H⟩ | ⟨c2b0, H⟩ := H
   ·have H' := Aside0.mk H
    clear H
    go_wp2
    go_roundg k1
    case measure => have := HK1.out; omega
    case rel => exact ⟨(wrap64 (x3_1 * 2)), e1_, H', ⟨by have := HK1.out; omega⟩, ⟨bw_ HB⟩⟩
   ·obtain rfl := Option.some.inj H
    go_wp2
    go_ret
    exact ⟨e2_, bw_ HB⟩
def spec_l6Half.l0 : Nat → Int → Int → Option (Int)
 | 0, _, _ => none
 | k + 1, x0, x3 => if (wrap64 (2 * x3)) < x0 then (spec_l6Half.l0 k x0 (wrap64 (2 * x3))) else (some x3)
def spec_l6Half.f (k : Nat) (a0 : Int) : Option (Int) := spec_l6Half.l0 k a0 1
set_option maxHeartbeats 8000000 in
set_option maxRecDepth 100000 in
theorem spec_l6Half.calls (k : Nat) (a0 : Int) (r : Int) (w : World) (h : spec_l6Half.f k a0 = some r) :
  Calls Tryz.prog 161 #[.int .i64 a0] w fun e w' => e = .returned (.int .i64 r) ∧ Below w.heap.size w w' := by
 have HB := Aside0.mk (Below.refl w.heap.size w)
 have H : (spec_l6Half.l0 k a0 1) = some r := h
 clear h
 have H' := Aside0.mk H
 clear H
 go_enter Tryz.func161, Tryz.ntmps161
 go_wp2
 go_loopg [3] k (fun kq v3 w' => ∃ (x3_1 : Int), v3 = .int .i64 x3_1 ∧ Aside0 (spec_l6Half.l0 kq a0 x3_1 = some r) ∧ Aside0 (kq ≤ k) ∧ Aside0 (Below w.heap.size w w'))
 case atStart => exact ⟨(1), e1_, H', ⟨Nat.le_refl _⟩, ⟨bw_ HB⟩⟩
 case round =>
  clear H'
  obtain ⟨x3_1, rfl, HA, HK1, HB⟩ := hrel
  cases gk with
  | zero => exact absurd HA.out (by simp [spec_l6Half.l0])
  | succ k1 =>
   have H := HA.out
   clear HA
   simp only [spec_l6Half.l0] at H
   replace H := itd_ H; obtain ⟨c2b0, H⟩ | ⟨c2b0, H⟩ := H
   ·have H' := Aside0.mk H
    clear H
    go_wp2
    go_roundg k1
    case measure => have := HK1.out; omega
    case rel => exact ⟨(wrap64 (2 * x3_1)), e1_, H', ⟨by have := HK1.out; omega⟩, ⟨bw_ HB⟩⟩
   ·obtain rfl := Option.some.inj H
    go_wp2
    go_ret
    exact ⟨e2_, bw_ HB⟩
end Go.Proofs.YtnlndmoecljicaaGreat.Q
end
section
namespace Go.Proofs.YtnlndmoecljicaaGreat.Q
open Go.RowKit Go.Proofs.YtnlndmoecljicaaGreat.B Go.Proofs.YtnlndmoecljicaaGreatW.PrintWords Go.Proofs.YtnlndmoecljicaaGreatW.PrintMore
set_option linter.unusedVariables false
set_option linter.unusedSimpArgs false
theorem bytesOf_range (s : ByteArray) : ∀ x ∈ bytesOf s, 0 ≤ x ∧ x ≤ 255 := by
 intro x hx
 simp only [bytesOf, List.mem_map] at hx
 obtain ⟨b, _, rfl⟩ := hx
 have := b.toNat_lt
 omega
def leafH (a : ByteArray) : ByteArray := sha (0 :: bytesOf a)
def nodeH (a b : ByteArray) : ByteArray := sha (1 :: (bytesOf a ++ bytesOf b))
theorem leafH_size (a : ByteArray) : (leafH a).size = 32 := sha_size _
theorem nodeH_size (a b : ByteArray) : (nodeH a b).size = 32 := sha_size _
theorem cons_range {c : Int} {l : List Int} (h0 : 0 ≤ c ∧ c ≤ 255) (h : ∀ x ∈ l, 0 ≤ x ∧ x ≤ 255) : ∀ x ∈ c :: l, 0 ≤ x ∧ x ≤ 255 := by
 intro x hx
 rcases List.mem_cons.1 hx with rfl | hx
 ·exact h0
 ·exact h x hx
theorem impl_leaf (a : ByteArray) (h : a.size ≤ 1099511627775) : impl_LeafHash.f a = some (leafH a) := by
 unfold impl_LeafHash.f
 simp only [Option.bind_some, List.length_cons, List.length_nil]
 rw [if_pos (by omega)]
 have e : ([0] : List Int) ++ bytesOf a = 0 :: bytesOf a := rfl
 rw [e, impl_Digest_is _ (by rw [List.length_cons, bytesOf_length]; omega)]
 rfl
theorem impl_node (a b : ByteArray) (h : a.size + b.size ≤ 1099511627775) : impl_NodeHash.f a b = some (nodeH a b) := by
 unfold impl_NodeHash.f
 simp only [Option.bind_some, List.length_cons, List.length_nil]
 rw [if_pos (by omega), if_pos (by simp [bytesOf_length]; omega)]
 have e : [1] ++ bytesOf a ++ bytesOf b = 1 :: (bytesOf a ++ bytesOf b) := rfl
 rw [e, impl_Digest_is _ (by rw [List.length_cons, List.length_append, bytesOf_length, bytesOf_length]; omega)]
 rfl
theorem spec_leaf (a : ByteArray) (h : a.size ≤ 1099511627775) : Ev (fun k => spec_LeafHash.f k a) (leafH a) := by
 refine Ev.congr (fun k => ?_) (Ev.bind (spec_Digest_ev (0 :: bytesOf a) (by rw [List.length_cons, bytesOf_length]; omega) (cons_range (by omega) (bytesOf_range a))) (Ev.now _))
 unfold spec_LeafHash.f
 simp only [Option.bind_some, List.length_cons, List.length_nil]
 rw [if_pos (by omega)]
 rfl
theorem spec_node (a b : ByteArray) (h : a.size + b.size ≤ 1099511627775) : Ev (fun k => spec_NodeHash.f k a b) (nodeH a b) := by
 refine Ev.congr (fun k => ?_) (Ev.bind (spec_Digest_ev (1 :: (bytesOf a ++ bytesOf b)) (by rw [List.length_cons, List.length_append, bytesOf_length, bytesOf_length]; omega) (cons_range (by omega) (fun x hx => ?_))) (Ev.now _))
 ·unfold spec_NodeHash.f
  simp only [Option.bind_some, List.length_cons, List.length_nil]
  rw [if_pos (by omega), if_pos (by simp [bytesOf_length]; omega)]
  rfl
 ·rcases List.mem_append.1 hx with hx | hx
  ·exact bytesOf_range _ x hx
  ·exact bytesOf_range _ x hx
def half (n : Nat) : Nat := 2 ^ (n - 1).log2
theorem half_pos (n : Nat) : 1 ≤ half n := Nat.one_le_two_pow
theorem half_lt {n : Nat} (h : 2 ≤ n) : half n < n := by
 have := Nat.log2_self_le (n := n - 1) (by omega)
 unfold half
 omega
theorem half_l0 (n : Nat) (h2 : 2 ≤ n) (hn : n ≤ 4611686018427387904) : ∀ (d j : Nat), d + j = (n - 1).log2 → Ev (fun k => spec_l6Half.l0 k (n : Int) ((2 ^ j : Nat) : Int)) ((half n : Nat) : Int) := by
 have hself := Nat.log2_self_le (n := n - 1) (by omega)
 have hlt := Nat.lt_log2_self (n := n - 1)
 intro d
 induction d with
 | zero =>
  intro j hj
  obtain rfl : j = (n - 1).log2 := by omega
  refine Ev.step (f := fun _ => some ((half n : Nat) : Int)) (fun k => ?_) (Ev.now _)
  rw [Nat.pow_succ] at hlt
  simp only [spec_l6Half.l0]
  rw [w64 (by omega) (by omega), if_neg (by omega)]
  rfl
 | succ d ih =>
  intro j hj
  have hp : 2 ^ (j + 1) ≤ 2 ^ (n - 1).log2 := Nat.pow_le_pow_right (by decide) (by omega)
  have hs : 2 ^ (j + 1) = 2 ^ j * 2 := Nat.pow_succ _ _
  refine Ev.step (fun k => ?_) (ih (j + 1) (by omega))
  simp only [spec_l6Half.l0]
  rw [w64 (by omega) (by omega), if_pos (by omega)]
  congr 1
  omega
theorem spec_half (n : Nat) (h2 : 2 ≤ n) (hn : n ≤ 4611686018427387904) : Ev (fun k => spec_l6Half.f k (n : Int)) ((half n : Nat) : Int) := half_l0 n h2 hn (n - 1).log2 0 rfl
theorem half_same (k : Nat) (n x : Int) : impl_half.l0 k n x = spec_l6Half.l0 k n x := by
 induction k generalizing x with
 | zero => simp only [impl_half.l0, spec_l6Half.l0]
 | succ k ih =>
  simp only [impl_half.l0, spec_l6Half.l0]
  rw [ih, Int.mul_comm]
theorem impl_half_ev (n : Nat) (h2 : 2 ≤ n) (hn : n ≤ 4611686018427387904) : Ev (fun k => impl_half.f k (n : Int)) ((half n : Nat) : Int) := by
 refine Ev.congr (fun k => ?_) (spec_half n h2 hn)
 unfold impl_half.f spec_l6Half.f
 rw [half_same]
def rootBy (lf : ByteArray → ByteArray) (l : List ByteArray) : ByteArray :=
 if h : 2 ≤ l.length then nodeH (rootBy lf (l.take (half l.length))) (rootBy lf (l.drop (half l.length)))
 else match l with
  | [] => sha []
  | a :: _ => lf a
termination_by l.length
decreasing_by
 ·have := half_lt h
  simp
  omega
 ·have := half_pos l.length
  simp
  omega
theorem rootBy_nil (lf : ByteArray → ByteArray) : rootBy lf [] = sha [] := by
 rw [rootBy]
 simp
theorem rootBy_one (lf : ByteArray → ByteArray) (a : ByteArray) : rootBy lf [a] = lf a := by
 rw [rootBy]
 simp
theorem rootBy_more (lf : ByteArray → ByteArray) {l : List ByteArray} (h : 2 ≤ l.length) : rootBy lf l = nodeH (rootBy lf (l.take (half l.length))) (rootBy lf (l.drop (half l.length))) := by
 rw [rootBy, dif_pos h]
theorem rootBy_size (lf : ByteArray → ByteArray) (b : Nat) (hb : 32 ≤ b) (l : List ByteArray) (hl : ∀ x ∈ l, (lf x).size ≤ b) : (rootBy lf l).size ≤ b := by
 by_cases h : 2 ≤ l.length
 ·rw [rootBy_more lf h, nodeH_size]
  exact hb
 ·match l, h with
  | [], _ => rw [rootBy_nil, sha_size]; exact hb
  | [a], _ => rw [rootBy_one]; exact hl a (by simp)
  | _ :: _ :: _, h => simp at h
theorem cut_parts (l : List ByteArray) (h : 2 ≤ l.length) : 1 ≤ (l.take (half l.length)).length ∧ (l.take (half l.length)).length < l.length ∧ 1 ≤ (l.drop (half l.length)).length ∧ (l.drop (half l.length)).length < l.length := by
 have h1 := half_pos l.length
 have h2 := half_lt h
 simp
 omega
end Go.Proofs.YtnlndmoecljicaaGreat.Q
end
section
namespace Go.Proofs.YtnlndmoecljicaaGreat.Q
open Go.RowKit Go.Proofs.YtnlndmoecljicaaGreatW.PrintWords Go.Proofs.YtnlndmoecljicaaGreatW.PrintLast Go.Proofs.YtnlndmoecljicaaGreatW.PrintMore
attribute [local go_sem] max2_int min2_int max_two min_two max_three min_three max_four min_four   -- for this text's walks alone
set_option linter.unusedVariables false
set_option linter.unusedSimpArgs false
mutual
def spec_PutNum.j0 : Nat → Int → List Int → Option (List Int)
 | 0, _, _ => none
 | k + 1, x1, x5 => if x1 < 0 then (spec_PutNum.j1 k 0 x5) else (spec_PutNum.j1 k x1 x5)
def spec_PutNum.j1 : Nat → Int → List Int → Option (List Int)
 | 0, _, _ => none
 | k + 1, x1, x5 => spec_PutNum.l0 k x1 x5
def spec_PutNum.l0 : Nat → Int → List Int → Option (List Int)
 | 0, _, _ => none
 | k + 1, x1, x5 => if x1 > 127 then (if x5.length < 140737488355328 then (spec_PutNum.l0 k (x1 / 128) (x5 ++ [(Go.bits .or .i64 (Go.bits .and .i64 x1 127) 128) % 256])) else (none)) else (if x5.length < 140737488355328 then (some (x5 ++ [(x1) % 256])) else (none))
end
def spec_PutNum.f (k : Nat) (l0 : List Int) (a1 : Int) : Option (List Int) := (some (([] : List Int) : List Int)).bind fun y601 => (if y601.length + l0.length < 140737488355328 then ((some (y601 ++ l0 : List Int)).bind fun y604 => (if a1 > 1000000000 then (spec_PutNum.j0 k 1000000000 y604) else (spec_PutNum.j0 k a1 y604))) else (none))
def impl_putNum.l0 : Nat → List Int → Int → Option (List Int)
 | 0, _, _ => none
 | k + 1, x0, x1 => if x1 > 127 then (if x0.length < 140737488355328 then (impl_putNum.l0 k (x0 ++ [(Go.bits .or .i64 128 (Go.bits .and .i64 x1 127)) % 256]) (x1 / 128)) else (none)) else (if x0.length < 140737488355328 then (some (x0 ++ [(x1) % 256])) else (none))
def impl_putNum.f (k : Nat) (l0 : List Int) (a1 : Int) : Option (List Int) := impl_putNum.l0 k l0 (mx 0 (mn a1 1000000000))
set_option maxHeartbeats 8000000 in
set_option maxRecDepth 100000 in
theorem impl_putNum.calls (k : Nat) (P0_ : Nat → Prop) (u9000_ : Value) (l0 : List Int) (a1 : Int) (r : List Int) (w0 w : World) (hB : Below w0.heap.size w0 w) (ho0 : Kd.R (Kd.int .u8) 5 w w0.heap.size P0_ u9000_ l0) (h : impl_putNum.f k l0 a1 = some r) :
  Calls Tryz.prog 155 #[u9000_, .int .i64 a1] w fun e w' => ∃ v0_ : Value, e = .returned (v0_) ∧ Kd.R (Kd.int .u8) 5 w' w0.heap.size (fun k_ => (P0_ k_ ∨ w.heap.size ≤ k_)) v0_ r ∧ Below w0.heap.size w0 w' ∧ Kept w w' (fun k_ => P0_ k_) := by
 have HO0 := Aside0.mk (show Kd.R (Kd.int .u8) 5 w w0.heap.size (fun k_ => (P0_ k_ ∨ w.heap.size ≤ k_)) u9000_ l0 from Kd.R_mono ho0 (fun k_ hk => (.inl hk)))
 have HK := Aside0.mk (Kept.refl w (fun k_ => P0_ k_))
 have HW0 := Aside0.mk hB.size
 have HB := Aside0.mk hB
 clear hB
 have H : (impl_putNum.l0 k l0 (mx 0 (mn a1 1000000000))) = some r := h
 clear h
 generalize hji3 : (mn a1 1000000000) = ji3 at H
 (try (have hji3h : ji3 ≤ 1000000000 := by (rw [← hji3]; unfold mn; (repeat' split) <;> omega)))
 (try (have hji3g : ji3 ≤ 64 := by omega))
 have hji3_ : (if 1000000000 < a1 then 1000000000 else a1) = ji3 := hji3
 generalize hji4 : (mx 0 (ji3)) = ji4 at H
 have hji4_ : (if 0 < (ji3) then (ji3) else 0) = ji4 := hji4
 have H' := Aside0.mk H
 clear H
 go_enter Tryz.func155, Tryz.ntmps155
 go_wp2
 go_loopg [0, 1] k (fun kq v0 v1 w' => ∃ (x0_1 : List Int) (x1_1 : Int), v1 = .int .i64 x1_1 ∧ Aside0 (impl_putNum.l0 kq x0_1 x1_1 = some r) ∧ Aside0 (kq ≤ k) ∧ Aside0 (Kd.R (Kd.int .u8) 5 w' w0.heap.size (fun k_ => (P0_ k_ ∨ w.heap.size ≤ k_)) v0 x0_1) ∧ Aside0 (Kept w w' (fun k_ => P0_ k_)) ∧ Aside0 (Below w0.heap.size w0 w'))
 case atStart => exact ⟨(l0), (ji4), (by first | rfl | (simp; done) | (simp only [← hji4] <;> (first | rfl | simp)) | (simp [*]; done)), H', ⟨Nat.le_refl _⟩, ⟨kr_ HO0.out⟩, ⟨kt_ HK⟩, ⟨bw_ HB⟩⟩
 case round =>
  clear H'
  obtain ⟨x0_1, x1_1, rfl, HA, HK1, HO_0, HK, HB⟩ := hrel
  cases gk with
  | zero => exact absurd HA.out (by simp [impl_putNum.l0])
  | succ k1 =>
   have H := HA.out
   clear HA
   simp only [impl_putNum.l0] at H
   replace H := it_ H; obtain ⟨c5, H⟩ | ⟨c5, H⟩ := H
   ·have c5b0 : decide (127 < x1_1) = true := decide_eq_true c5
    clear c5
    replace H := ip_ H; obtain ⟨c6, H⟩ := H
    have LMc6 := Aside0.mk c6
    clear c6
    obtain ⟨y601, hy601⟩ : ∃ y_ : List Int, y_ = (x0_1 ++ [(Go.bits .or .i64 128 (Go.bits .and .i64 x1_1 127)) % 256]) := ⟨_, rfl⟩
    replace H : (impl_putNum.l0 k1 y601 (x1_1 / 128)) = some r := yh_ hy601 H
    have Ny601 := Aside0.mk hy601
    clear hy601
    have H' := Aside0.mk H
    clear H
    go_wp2_with (first | ((with_reducible refine gate_builtin (b := .append) (xs := #[.tmp 10, .tmp 15]) rfl ?_); at_builtin; refine Kd.R_append (Kd.int .u8) (w0 := w0) w0.heap.size rfl (.tmp 10) (.tmp 15) 27 5 (.int .u8 0) 1 rfl Tryz.underlying27 info5 rfl (by decide) (by omega) u0 x0_1 ((Go.bits .or .i64 128 (Go.bits .and .i64 x1_1 127)) % 256) [.int .u8 ((Go.bits .or .i64 128 (Go.bits .and .i64 x1_1 127)) % 256)] (fun k_ => (P0_ k_ ∨ w.heap.size ≤ k_)) (fun _ => False) rfl rfl ?aP (fun _ hk => hk.elim) ?aF ?aO ?aB ?aS ?aL ?_; (case aP => exact rfl); (case aB => exact (bw_ HB)); (case aF => exact (fun k_ hk => (.inr (Nat.le_trans (by first | exact HK.out.1 | exact (show Kept w _ (fun k_ => P0_ k_) from kt_ HK).1) hk)))); (case aO => exact (kr_ HO_0.out)); (case aS => exact (sz_ HB)); (case aL => have := LMc6.out; omega); intro v602 w7 ho hb hg hat; rw [← Ny601.out] at ho; replace HB := Aside0.mk hb; replace HK := Aside0.mk (Kept.of_grown (S := (fun k_ => P0_ k_)) hg (kt_ HK) (fun k_ e_ => (HO_0.out.1 k_ e_))); have HO603 := Aside0.mk ho; clear HO_0; clear ho hb hg hat))
    go_roundg k1
    case measure => have := HK1.out; omega
    case rel => exact ⟨(y601), (x1_1 / 128), e1_, H', ⟨by have := HK1.out; omega⟩, ⟨kr_ HO603.out⟩, ⟨kt_ HK⟩, ⟨bw_ HB⟩⟩
   ·have c5b0 : decide (127 < x1_1) = false := decide_eq_false c5
    clear c5
    replace H := ip_ H; obtain ⟨c8, H⟩ := H
    have LMc8 := Aside0.mk c8
    clear c8
    obtain ⟨y604, hy604⟩ : ∃ y_ : List Int, y_ = (x0_1 ++ [(x1_1) % 256]) := ⟨_, rfl⟩
    replace H : (some y604) = some r := yh_ hy604 H
    have Ny604 := Aside0.mk hy604
    clear hy604
    obtain rfl := Option.some.inj H
    go_wp2_with (first | ((with_reducible refine gate_builtin (b := .append) (xs := #[.tmp 19, .tmp 22]) rfl ?_); at_builtin; refine Kd.R_append (Kd.int .u8) (w0 := w0) w0.heap.size rfl (.tmp 19) (.tmp 22) 27 5 (.int .u8 0) 1 rfl Tryz.underlying27 info5 rfl (by decide) (by omega) u0 x0_1 ((x1_1) % 256) [.int .u8 ((x1_1) % 256)] (fun k_ => (P0_ k_ ∨ w.heap.size ≤ k_)) (fun _ => False) rfl rfl ?aP (fun _ hk => hk.elim) ?aF ?aO ?aB ?aS ?aL ?_; (case aP => exact rfl); (case aB => exact (bw_ HB)); (case aF => exact (fun k_ hk => (.inr (Nat.le_trans (by first | exact HK.out.1 | exact (show Kept w _ (fun k_ => P0_ k_) from kt_ HK).1) hk)))); (case aO => exact (kr_ HO_0.out)); (case aS => exact (sz_ HB)); (case aL => have := LMc8.out; omega); intro v605 w9 ho hb hg hat; rw [← Ny604.out] at ho; replace HB := Aside0.mk hb; replace HK := Aside0.mk (Kept.of_grown (S := (fun k_ => P0_ k_)) hg (kt_ HK) (fun k_ e_ => (HO_0.out.1 k_ e_))); have HO606 := Aside0.mk ho; clear HO_0; clear ho hb hg hat))
    go_ret
    exact ⟨_, by first | rfl | (simp [errW_none, errW_some] <;> rfl) | (simp only [← hji3, ← hji4]; first | rfl | (simp [errW_none, errW_some] <;> rfl)) | (simp [*, errW_none, errW_some] <;> rfl), kr_ HO606.out, bw_ HB, kt_ HK⟩
def spec_PutText.f (k : Nat) (l0 : List Int) (a1 : ByteArray) : Option (List Int) := (spec_PutNum.f k l0 (a1.size : Int)).bind fun t601 => (if t601.length + a1.size < 140737488355328 then (some (t601 ++ bytesOf a1)) else (none))
end Go.Proofs.YtnlndmoecljicaaGreat.Q
end
section
namespace Go.Proofs.YtnlndmoecljicaaGreatW.PrintMore
open Go Go.Lib Go.RowKit Go.Proofs.YtnlndmoecljicaaGreatW.PrintWords
set_option linter.unusedVariables false
set_option linter.unusedSimpArgs false
theorem append_str_hat {P : Program} (w : World) (base : Nat) (t u ty e : TypeId) (i : TypeInfo) (ht : P.underlying t = some (.slice e)) (hu : P.underlying u = some .string) (hi : P.info? e = some i) (hz : i.zero = some (.int .u8 0))
  (hsize : i.size = 1) (hby : i.bytes = 1) (v : Value) (n : Nat) (xs : List Value) (hown : w.ownsRow base e 1 v n xs) (s : ByteArray) (hbytes : n + s.size ≤ 140737488355328) {v' : Value} {w' : World}
  (hr : (Builtin.append_ #[t, u] ty #[v, .string s]).run P w = .ok v' w') : v'.ownBlock = v.ownBlock ∨ ∃ b, v'.ownBlock = some b ∧ w.heap.size ≤ b := by
 have hxl : xs.length = n := by simpa using hown.1
 rcases hown.2 with ⟨rfl, rfl⟩ | ⟨g, cap, cur, rfl, hbg, hg, hnc, hcm, hcs, htake⟩
 ·by_cases hm : s.size = 0
  ·have hf := Lib.run_firstCells_string (P := P) w 1 s
   rw [hm] at hf
   simp [Builtin.append_, run_underlying ht, run_underlying hu, sizeOf, typeInfo, hi, hsize, Builtin.lenOf, hm, hf] at hr
   left
   rw [← hr.1]
  ·have h2 := run_append_nil_string (P := P) w t u ty e i (.int .u8 0) ht hu hi hz s (by omega) (by omega) (by rw [hby]; omega)
   rw [h2] at hr
   cases hr
   exact .inr ⟨w.heap.size, rfl, Nat.le_refl _⟩
 ·by_cases hroom : n + s.size ≤ cap
  ·have h2 := Lib.run_append_room_string (P := P) w t u ty e i ht hu hi hsize g n cap cur hg s hroom (by omega)
   rw [h2] at hr
   cases hr
   exact .inl rfl
  ·have holds : ∀ j u, xs[j]? = some u → w.cell? ((⟨g, 0, none⟩ : Addr).add j) = some u := hown.cells (g := g) rfl
   have h2 := Lib.run_append_grow_string (P := P) w t u ty e i (.int .u8 0) ht hu hi hz ⟨g, 0, none⟩ n cap xs (by rw [hsize]; simpa using hxl) holds s (by omega) (by omega) (by rw [hby]; exact growslice_fits (by omega) (by omega))
   rw [h2] at hr
   cases hr
   exact .inr ⟨w.heap.size, rfl, Nat.le_refl _⟩
section
variable {P : Program} {ops : Array Oper} {rest : List Oper} {o : Oper} {a : Act} {Q : Exit → Act → World → Prop}
theorem print_append_strR {w0 W : World} (base : Nat) (hgd : o.guard = none) (s x : Operand) (t u e : TypeId)
  (ho : o.op = .call { callee := .builtin .append, args := #[s, x], argTypes := #[t, u] })
  (ht : P.underlying t = some (.slice e)) (hu : P.underlying u = some .string) (hinfo : (P.info? e).map (fun i => (i.zero, i.size, i.bytes)) = some (some (.int .u8 0), 1, 1))
  (v : Value) (xs : List Int) (y : ByteArray) (ok : Nat → Prop) (hs : a.eval s = v) (hx : a.eval x = .string y) (hfresh : ∀ k, W.heap.size ≤ k → ok k)
  (HO : Kd.R (Kd.int .u8) e W base ok v xs) (HB : Below base w0 W) (hbase : base ≤ W.heap.size) (hl : xs.length + y.size ≤ 140737488355328)
  (h : ∀ v1 w1, Kd.R (Kd.int .u8) e w1 base ok v1 (xs ++ bytesOf y) → Below base w0 w1 → W.grownBy w1 v.ownBlock → (v1.ownBlock = v.ownBlock ∨ ∃ b, v1.ownBlock = some b ∧ W.heap.size ≤ b) → wpList P ops Q rest (a.put o.dst v1) w1) :
  wpList P ops Q (o :: rest) a W := by
 obtain ⟨i0, hi, hzz⟩ := Option.map_eq_some_iff.1 hinfo
 simp only [Prod.mk.injEq] at hzz
 obtain ⟨hz0, hz1, hz2⟩ := hzz
 have hO := Kd.own_of_R HO
 refine wpList_plain hgd fun K hK => ?_
 obtain ⟨v', w', hr, h2, h3, h4⟩ := Lib.run_append_own_string (P := P) W base t u o.type e i0 ht hu hi hz0 hz1 hz2 v xs.length _ hO y (by simp only [maxLen]; omega) hl hbase
 have hat := append_str_hat W base t u o.type e i0 ht hu hi hz0 hz1 hz2 v xs.length _ hO y hl hr
 have hl2 : (xs ++ bytesOf y).length = xs.length + y.size := by rw [List.length_append, bytesOf_length]
 have hc : nums .u8 (xs ++ bytesOf y) = nums .u8 xs ++ Lib.strCells y := by
  rw [nums_append]
  congr 1
  simp [nums, bytesOf, Lib.strCells]
 have hR : w'.ownsRow base e 1 v' (xs ++ bytesOf y).length (nums .u8 (xs ++ bytesOf y)) := by
  rw [hl2, hc]
  exact h2
 have hB : Below base w0 w' := HB.grown h3 hbase (own_base hO)
 unfold Oper.wp execOp
 simp only [ho, resolve, invoke, builtin, Sem.run_bind, Sem.run_pure, Result.andThen_ok, List.map_toArray, List.map_cons, List.map_nil, hs, hx, hr]
 refine hK _ _ (h v' w' (Kd.R_of_own hR (fun k hk => ?_)) hB h3 hat)
 rcases hat with ha | ⟨b, ha, hb⟩
 ·exact HO.1 k (by rw [← ha]; exact hk)
 ·rw [ha] at hk
  cases hk
  exact hfresh _ hb
end
end Go.Proofs.YtnlndmoecljicaaGreatW.PrintMore
end
section
namespace Go.Proofs.YtnlndmoecljicaaGreat.Q
open Go.RowKit Go.Proofs.YtnlndmoecljicaaGreatW.PrintWords Go.Proofs.YtnlndmoecljicaaGreatW.PrintLast Go.Proofs.YtnlndmoecljicaaGreatW.PrintMore
attribute [local go_sem] max2_int min2_int max_two min_two max_three min_three max_four min_four   -- for this text's walks alone
set_option linter.unusedVariables false
set_option linter.unusedSimpArgs false
def impl_putText.f (k : Nat) (l0 : List Int) (a1 : ByteArray) : Option (List Int) := (impl_putNum.f k l0 (a1.size : Int)).bind fun t601 => (if t601.length + a1.size < 140737488355328 then (some (t601 ++ bytesOf a1)) else (none))
set_option maxHeartbeats 8000000 in
set_option maxRecDepth 100000 in
theorem impl_putText.calls (k : Nat) (P0_ : Nat → Prop) (u9000_ : Value) (l0 : List Int) (a1 : ByteArray) (r : List Int) (w0 w : World) (hB : Below w0.heap.size w0 w) (ho0 : Kd.R (Kd.int .u8) 5 w w0.heap.size P0_ u9000_ l0) (h : impl_putText.f k l0 a1 = some r) :
  Calls Tryz.prog 154 #[u9000_, .string a1] w fun e w' => ∃ v0_ : Value, e = .returned (v0_) ∧ Kd.R (Kd.int .u8) 5 w' w0.heap.size (fun k_ => (P0_ k_ ∨ w.heap.size ≤ k_)) v0_ r ∧ Below w0.heap.size w0 w' ∧ Kept w w' (fun k_ => P0_ k_) := by
 have HO0 := Aside0.mk (show Kd.R (Kd.int .u8) 5 w w0.heap.size (fun k_ => (P0_ k_ ∨ w.heap.size ≤ k_)) u9000_ l0 from Kd.R_mono ho0 (fun k_ hk => (.inl hk)))
 have HK := Aside0.mk (Kept.refl w (fun k_ => P0_ k_))
 have HW0 := Aside0.mk hB.size
 have HB := Aside0.mk hB
 clear hB
 have H : ((impl_putNum.f k l0 (a1.size : Int)).bind fun t601 => (if t601.length + a1.size < 140737488355328 then (some (t601 ++ bytesOf a1)) else (none))) = some r := h
 clear h
 replace H := bi_ H; obtain ⟨t601, A3, H⟩ := H
 replace H := ip_ H; obtain ⟨c4, H⟩ := H
 have LMc4 := Aside0.mk c4
 clear c4
 obtain ⟨y604, hy604⟩ : ∃ y_ : List Int, y_ = (t601 ++ bytesOf a1) := ⟨_, rfl⟩
 replace H : (some y604) = some r := yh_ hy604 H
 have Ny604 := Aside0.mk hy604
 clear hy604
 obtain rfl := Option.some.inj H
 obtain ⟨Ao5, co5, eo5⟩ := Kd.R_slice HO0.out
 subst eo5
 go_enter Tryz.func154, Tryz.ntmps154
 go_wp2_with (first | ((with_reducible refine gq_ 155 8 ?_); refine gc_ 8 Tryz.func155 (impl_putNum.calls k (fun k_ => some k_ = (.slice Ao5 l0.length co5 : Value).ownBlock) (.slice Ao5 l0.length co5) l0 (a1.size : Int) t601 w0 _ (bw_ HB) (Kd.R_tight rfl HO0.out) A3.out) ?_; rintro e w6 ⟨v602, rfl, ho0, hb, hkp⟩; refine ⟨_, rfl, ?_⟩; have HO603 := Aside0.mk (Kd.R_mono (ok' := fun k_ => (P0_ k_ ∨ w.heap.size ≤ k_)) ho0 (fun k_ hk_ => Or.elim hk_ (fun hs_ => (HO0.out.1 k_ (hs_).symm)) (fun hn_ => (.inr (Nat.le_trans (by first | exact HK.out.1 | exact (show Kept w _ (fun k_ => P0_ k_) from kt_ HK).1) hn_))))); replace HK := Aside0.mk (Kept.then_ (S := (fun k_ => P0_ k_)) (kt_ HK) hkp (fun k_ hs_ => (fun e_ => (HO0.out.1 k_ e_.symm)) hs_)); replace HB := Aside0.mk hb; clear HO0; clear hb hkp ho0) | (at_builtin; refine print_append_strR (w0 := w0) w0.heap.size rfl (.tmp 8) _ 27 9 5 rfl Tryz.underlying27 Tryz.underlying9 info5 v602 t601 a1 (fun k_ => (P0_ k_ ∨ w.heap.size ≤ k_)) rfl rfl ?aF ?aO ?aB ?aS ?aL ?_; (case aB => exact (bw_ HB)); (case aF => exact (fun k_ hk => (.inr (Nat.le_trans (by first | exact HK.out.1 | exact (show Kept w _ (fun k_ => P0_ k_) from kt_ HK).1) hk)))); (case aO => exact (kr_ HO603.out)); (case aS => exact (sz_ HB)); (case aL => have := LMc4.out; omega); intro v605 w7 ho hb hg hat; rw [← Ny604.out] at ho; replace HB := Aside0.mk hb; replace HK := Aside0.mk (Kept.of_grown (S := (fun k_ => P0_ k_)) hg (kt_ HK) (fun k_ e_ => (HO603.out.1 k_ e_))); have HO606 := Aside0.mk ho; clear HO603; clear ho hb hg hat))
 go_ret
 exact ⟨_, e2_, kr_ HO606.out, bw_ HB, kt_ HK⟩
def spec_PutTexts.l0 : Nat → List ByteArray → List Int → Int → Option (List Int)
 | 0, _, _, _ => none
 | k + 1, x1, x5, x6 => if x6 < (x1.length : Int) then (if 0 ≤ x6 then ((spec_PutText.f k x5 (rdOf ByteArray.empty x1 x6)).bind fun t605 => (spec_PutTexts.l0 k x1 t605 (wrap64 (x6 + 1)))) else (none)) else (some x5)
def spec_PutTexts.f (k : Nat) (l0 : List Int) (l1 : List ByteArray) : Option (List Int) := (spec_PutNum.f k l0 (l1.length : Int)).bind fun t601 => (spec_PutTexts.l0 k l1 t601 0)
def impl_putTexts.l0 : Nat → List Int → List ByteArray → Int → Int → Option (List Int)
 | 0, _, _, _, _ => none
 | k + 1, x0, x11, x12, x13 => if x13 < x12 then (if 0 ≤ x13 then (if x13 < (x11.length : Int) then ((impl_putText.f k x0 (rdOf ByteArray.empty x11 x13)).bind fun t605 => (impl_putTexts.l0 k t605 x11 x12 (wrap64 (x13 + 1)))) else (none)) else (none)) else (some x0)
def impl_putTexts.f (k : Nat) (l0 : List Int) (l1 : List ByteArray) : Option (List Int) := (impl_putNum.f k l0 (l1.length : Int)).bind fun t601 => (impl_putTexts.l0 k t601 l1 (l1.length : Int) 0)
set_option maxHeartbeats 8000000 in
set_option maxRecDepth 100000 in
theorem impl_putTexts.calls (k : Nat) (P0_ : Nat → Prop) (u9000_ : Value) (l0 : List Int) (A1 : Option Addr) (c1 : Nat) (l1 : List ByteArray) (r : List Int) (w0 w : World) (hB : Below w0.heap.size w0 w) (ho0 : Kd.R (Kd.int .u8) 5 w w0.heap.size P0_ u9000_ l0) (hr1 : ∀ W_, Kept w W_ (fun k_ => P0_ k_) → Kd.C Kd.string W_ A1 l1.length l1) (hc1 : l1.length ≤ c1) (h : impl_putTexts.f k l0 l1 = some r) :
  Calls Tryz.prog 153 #[u9000_, .slice A1 l1.length c1] w fun e w' => ∃ v0_ : Value, e = .returned (v0_) ∧ Kd.R (Kd.int .u8) 5 w' w0.heap.size (fun k_ => (P0_ k_ ∨ w.heap.size ≤ k_)) v0_ r ∧ Below w0.heap.size w0 w' ∧ Kept w w' (fun k_ => P0_ k_) := by
 have HO0 := Aside0.mk (show Kd.R (Kd.int .u8) 5 w w0.heap.size (fun k_ => (P0_ k_ ∨ w.heap.size ≤ k_)) u9000_ l0 from Kd.R_mono ho0 (fun k_ hk => (.inl hk)))
 have HR1 := Aside0.mk hr1
 have HC1 := Aside0.mk hc1
 clear hr1 hc1
 have HK := Aside0.mk (Kept.refl w (fun k_ => P0_ k_))
 have HW0 := Aside0.mk hB.size
 have HB := Aside0.mk hB
 clear hB
 have H : ((impl_putNum.f k l0 (l1.length : Int)).bind fun t601 => (impl_putTexts.l0 k t601 l1 (l1.length : Int) 0)) = some r := h
 clear h
 replace H := bi_ H; obtain ⟨t601, A3, H⟩ := H
 have H' := Aside0.mk H
 clear H
 obtain ⟨Ao4, co4, eo4⟩ := Kd.R_slice HO0.out
 subst eo4
 go_enter Tryz.func153, Tryz.ntmps153
 go_wp2_with (first | ((with_reducible refine gq_ 155 10 ?_); refine gc_ 10 Tryz.func155 (impl_putNum.calls k (fun k_ => some k_ = (.slice Ao4 l0.length co4 : Value).ownBlock) (.slice Ao4 l0.length co4) l0 (l1.length : Int) t601 w0 _ (bw_ HB) (Kd.R_tight rfl HO0.out) A3.out) ?_; rintro e w5 ⟨v602, rfl, ho0, hb, hkp⟩; refine ⟨_, rfl, ?_⟩; have HO603 := Aside0.mk (Kd.R_mono (ok' := fun k_ => (P0_ k_ ∨ w.heap.size ≤ k_)) ho0 (fun k_ hk_ => Or.elim hk_ (fun hs_ => (HO0.out.1 k_ (hs_).symm)) (fun hn_ => (.inr (Nat.le_trans (by first | exact HK.out.1 | exact (show Kept w _ (fun k_ => P0_ k_) from kt_ HK).1) hn_))))); replace HK := Aside0.mk (Kept.then_ (S := (fun k_ => P0_ k_)) (kt_ HK) hkp (fun k_ hs_ => (fun e_ => (HO0.out.1 k_ e_.symm)) hs_)); replace HB := Aside0.mk hb; clear HO0; clear hb hkp ho0))
 go_loopg [0, 13] k (fun kq v0 v13 w' => ∃ (x0_1 : List Int) (x13_1 : Int), v13 = .int .i64 x13_1 ∧ Aside0 (impl_putTexts.l0 kq x0_1 l1 (l1.length : Int) x13_1 = some r) ∧ Aside0 (kq ≤ k) ∧ Aside0 (Kd.R (Kd.int .u8) 5 w' w0.heap.size (fun k_ => (P0_ k_ ∨ w.heap.size ≤ k_)) v0 x0_1) ∧ Aside0 (Kept w w' (fun k_ => P0_ k_)) ∧ Aside0 (Below w0.heap.size w0 w'))
 case atStart => exact ⟨(t601), (0), e1_, H', ⟨Nat.le_refl _⟩, ⟨kr_ HO603.out⟩, ⟨kt_ HK⟩, ⟨bw_ HB⟩⟩
 case round =>
  clear H'
  obtain ⟨x0_1, x13_1, rfl, HA, HK1, HO_0, HK, HB⟩ := hrel
  cases gk with
  | zero => exact absurd HA.out (by simp [impl_putTexts.l0])
  | succ k1 =>
   have H := HA.out
   clear HA
   simp only [impl_putTexts.l0] at H
   replace H := itd_ H; obtain ⟨c6b0, H⟩ | ⟨c6b0, H⟩ := H
   ·replace H := ipd_ H; obtain ⟨c7b0, H⟩ := H
    replace H := ipd_ H; obtain ⟨c8b0, H⟩ := H
    replace H := bi_ H; obtain ⟨t605, A9, H⟩ := H
    have H' := Aside0.mk H
    clear H
    have p604 : 0 ≤ (x13_1 : Int) := of_decide_eq_true as_
    have q604 : x13_1 < (l1.length : Int) := of_decide_eq_true as_
    obtain ⟨ad604, e604, hx604_0⟩ := Kd.at_string (Kd.C_kept_now HR1.out HK.out) x13_1 p604 q604
    cases e604
    replace p604 := eq_true p604
    replace q604 := eq_true q604
    obtain ⟨Ao10, co10, eo10⟩ := Kd.R_slice HO_0.out
    subst eo10
    go_wp2_with (first | ((with_reducible refine gq_ 154 19 ?_); refine gc_ 19 Tryz.func154 (impl_putText.calls k1 (fun k_ => some k_ = (.slice Ao10 x0_1.length co10 : Value).ownBlock) (.slice Ao10 x0_1.length co10) x0_1 (rdOf ByteArray.empty l1 x13_1) t605 w0 _ (bw_ HB) (Kd.R_tight rfl HO_0.out) A9.out) ?_; rintro e w11 ⟨v606, rfl, ho0, hb, hkp⟩; refine ⟨_, rfl, ?_⟩; have HO607 := Aside0.mk (Kd.R_mono (ok' := fun k_ => (P0_ k_ ∨ w.heap.size ≤ k_)) ho0 (fun k_ hk_ => Or.elim hk_ (fun hs_ => (HO_0.out.1 k_ (hs_).symm)) (fun hn_ => (.inr (Nat.le_trans (by first | exact HK.out.1 | exact (show Kept w _ (fun k_ => P0_ k_) from kt_ HK).1) hn_))))); replace HK := Aside0.mk (Kept.then_ (S := (fun k_ => P0_ k_)) (kt_ HK) hkp (fun k_ hs_ => (fun e_ => (HO_0.out.1 k_ e_.symm)) hs_)); replace HB := Aside0.mk hb; clear HO_0; clear hb hkp ho0))
    go_roundg k1
    case measure => have := HK1.out; omega
    case rel => exact ⟨(t605), (wrap64 (x13_1 + 1)), e1_, H', ⟨by have := HK1.out; omega⟩, ⟨kr_ HO607.out⟩, ⟨kt_ HK⟩, ⟨bw_ HB⟩⟩
   ·obtain rfl := Option.some.inj H
    go_wp2
    go_ret
    exact ⟨_, e2_, kr_ HO_0.out, bw_ HB, kt_ HK⟩
end Go.Proofs.YtnlndmoecljicaaGreat.Q
end
section
namespace Go.Proofs.YtnlndmoecljicaaGreat.Q
open Go.RowKit Go.Proofs.YtnlndmoecljicaaGreat.B Go.Proofs.YtnlndmoecljicaaGreatW.PrintWords Go.Proofs.YtnlndmoecljicaaGreatW.PrintMore
set_option linter.unusedVariables false
set_option linter.unusedSimpArgs false
theorem or_swap (a b : Int) : Go.bits .or .i64 a b = Go.bits .or .i64 b a := by
 have e : ∀ x y : Int, Go.bits .or .i64 x y = IntKind.i64.wrap ((BitVec.ofInt 64 x ||| BitVec.ofInt 64 y).toNat : Int) := fun x y => rfl
 rw [e, e, BitVec.or_comm]
def InB (l : List Int) : Prop := ∀ x ∈ l, 0 ≤ x ∧ x ≤ 255
theorem inB_nil : InB [] := fun x hx => by simp at hx
theorem inB_app {a b : List Int} (ha : InB a) (hb : InB b) : InB (a ++ b) := fun x hx => by
 rcases List.mem_append.1 hx with hx | hx
 ·exact ha x hx
 ·exact hb x hx
theorem inB_text (s : ByteArray) : InB (bytesOf s) := fun x hx => bytesOf_range s x hx
def num (n : Nat) : List Int := if 127 < n then ((128 + n % 128 : Nat) : Int) :: num (n / 128) else [(n : Int)]
termination_by n
decreasing_by omega
theorem num_more {n : Nat} (h : 127 < n) : num n = ((128 + n % 128 : Nat) : Int) :: num (n / 128) := by rw [num, if_pos h]
theorem num_one {n : Nat} (h : ¬ 127 < n) : num n = [(n : Int)] := by rw [num, if_neg h]
theorem num_inB (n : Nat) : InB (num n) := by
 induction n using Nat.strongRecOn with
 | ind n ih =>
  by_cases h : 127 < n
  ·rw [num_more h]
   intro x hx
   rcases List.mem_cons.1 hx with hx | hx
   ·omega
   ·exact ih (n / 128) (by omega) x hx
  ·rw [num_one h]
   intro x hx
   rw [List.mem_singleton.1 hx]
   omega
theorem num_pos (n : Nat) : 1 ≤ (num n).length := by
 by_cases h : 127 < n
 ·rw [num_more h]
  simp
 ·rw [num_one h]
  simp
theorem num_len : ∀ (k n : Nat), n < 128 ^ (k + 1) → (num n).length ≤ k + 1 := by
 intro k
 induction k with
 | zero =>
  intro n h
  rw [num_one (by omega)]
  simp
 | succ k ih =>
  intro n h
  by_cases h2 : 127 < n
  ·rw [num_more h2, List.length_cons]
   have := ih (n / 128) (by rw [Nat.pow_succ] at h; omega)
   omega
  ·rw [num_one h2]
   simp
theorem num_five {n : Nat} (h : n ≤ 1000000000) : (num n).length ≤ 5 := num_len 4 n (by omega)
theorem num_inj : ∀ (n m : Nat) (r s : List Int), num n ++ r = num m ++ s → n = m ∧ r = s := by
 intro n
 induction n using Nat.strongRecOn with
 | ind n ih =>
  intro m r s h
  by_cases h1 : 127 < n
  ·by_cases h2 : 127 < m
   ·rw [num_more h1, num_more h2, List.cons_append, List.cons_append] at h
    injection h with ha hb
    obtain ⟨e1, e2⟩ := ih (n / 128) (by omega) (m / 128) r s hb
    exact ⟨by omega, e2⟩
   ·rw [num_more h1, num_one h2, List.cons_append, List.cons_append] at h
    injection h with ha hb
    omega
  ·by_cases h2 : 127 < m
   ·rw [num_one h1, num_more h2, List.cons_append, List.cons_append] at h
    injection h with ha hb
    omega
   ·rw [num_one h1, num_one h2, List.cons_append, List.cons_append] at h
    injection h with ha hb
    exact ⟨by omega, by simpa using hb⟩
def textB (s : ByteArray) : List Int := num s.size ++ bytesOf s
def manyB (t : List ByteArray) : List Int := (t.map textB).flatten
def textsB (t : List ByteArray) : List Int := num t.length ++ manyB t
theorem textB_inB (s : ByteArray) : InB (textB s) := inB_app (num_inB _) (inB_text s)
theorem manyB_nil : manyB [] = [] := rfl
theorem manyB_cons (s : ByteArray) (t : List ByteArray) : manyB (s :: t) = textB s ++ manyB t := rfl
theorem textB_length (s : ByteArray) : (textB s).length = (num s.size).length + s.size := by
 unfold textB
 rw [List.length_append, bytesOf_length]
theorem bytesOf_inj {a b : ByteArray} (h : bytesOf a = bytesOf b) : a = b := by
 apply bytes_ext
 rw [Go.Lib.toList_data, Go.Lib.toList_data]
 unfold bytesOf at h
 refine List.map_inj_right (fun x y e => ?_) |>.1 h
 exact UInt8.toNat_inj.1 (by omega)
theorem textB_inj {a b : ByteArray} {r s : List Int} (h : textB a ++ r = textB b ++ s) : a = b ∧ r = s := by
 unfold textB at h
 rw [List.append_assoc, List.append_assoc] at h
 obtain ⟨h1, h2⟩ := num_inj _ _ _ _ h
 obtain ⟨h3, h4⟩ := List.append_inj h2 (by rw [bytesOf_length, bytesOf_length, h1])
 exact ⟨bytesOf_inj h3, h4⟩
theorem manyB_inj : ∀ (a b : List ByteArray) (r s : List Int), a.length = b.length → manyB a ++ r = manyB b ++ s → a = b ∧ r = s := by
 intro a
 induction a with
 | nil =>
  intro b r s hl h
  obtain rfl := List.eq_nil_of_length_eq_zero hl.symm
  exact ⟨rfl, by simpa [manyB_nil] using h⟩
 | cons x a ih =>
  intro b r s hl h
  cases b with
  | nil => cases hl
  | cons y b =>
   rw [manyB_cons, manyB_cons, List.append_assoc, List.append_assoc] at h
   obtain ⟨e1, e2⟩ := textB_inj h
   obtain ⟨e3, e4⟩ := ih b r s (by simpa using hl) e2
   exact ⟨by rw [e1, e3], e4⟩
theorem textsB_inj {a b : List ByteArray} {r s : List Int} (h : textsB a ++ r = textsB b ++ s) : a = b ∧ r = s := by
 unfold textsB at h
 rw [List.append_assoc, List.append_assoc] at h
 obtain ⟨h1, h2⟩ := num_inj _ _ _ _ h
 exact manyB_inj a b r s h1 h2
end Go.Proofs.YtnlndmoecljicaaGreat.Q
end
section
namespace Go.Proofs.YtnlndmoecljicaaGreat.Q
open Go.RowKit Go.Proofs.YtnlndmoecljicaaGreatW.PrintWords Go.Proofs.YtnlndmoecljicaaGreatW.PrintLast Go.Proofs.YtnlndmoecljicaaGreatW.PrintMore
attribute [local go_sem] max2_int min2_int max_two min_two max_three min_three max_four min_four   -- for this text's walks alone
set_option linter.unusedVariables false
set_option linter.unusedSimpArgs false
mutual
def impl_GetNum.l0 : Nat → List Int → Int → Int → Int → Option (Int × Int × Bool)
 | 0, _, _, _, _ => none
 | k + 1, x0, x1, x7, x8 => if x8 < 5 then (impl_GetNum.j1 k x0 x1 x7 x8 (decide (x1 < (x0.length : Int)))) else (impl_GetNum.j1 k x0 x1 x7 x8 false)
def impl_GetNum.j1 : Nat → List Int → Int → Int → Int → Bool → Option (Int × Int × Bool)
 | 0, _, _, _, _, _ => none
 | k + 1, x0, x1, x7, x8, x23 => if x23 = true then (if 0 ≤ x1 then (if x1 < (x0.length : Int) then (if 0 ≤ (IntKind.u64.wrap (wrap64 (7 * x8))) then (if (wrap64 (rd x0 x1)) < 128 then (if (wrap64 (rd x0 x1)) = 0 then (if x8 > 0 then (some (0, 0, false)) else (if (Go.bits .or .i64 x7 (shl .i64 (Go.bits .and .i64 (wrap64 (rd x0 x1)) 127) (IntKind.u64.wrap (wrap64 (7 * x8))))) > 1000000000 then (some (0, 0, false)) else (some (Go.bits .or .i64 x7 (shl .i64 (Go.bits .and .i64 (wrap64 (rd x0 x1)) 127) (IntKind.u64.wrap (wrap64 (7 * x8)))), wrap64 (x1 + 1), true)))) else (if (Go.bits .or .i64 x7 (shl .i64 (Go.bits .and .i64 (wrap64 (rd x0 x1)) 127) (IntKind.u64.wrap (wrap64 (7 * x8))))) > 1000000000 then (some (0, 0, false)) else (some (Go.bits .or .i64 x7 (shl .i64 (Go.bits .and .i64 (wrap64 (rd x0 x1)) 127) (IntKind.u64.wrap (wrap64 (7 * x8)))), wrap64 (x1 + 1), true)))) else (impl_GetNum.l0 k x0 (wrap64 (x1 + 1)) (Go.bits .or .i64 x7 (shl .i64 (Go.bits .and .i64 (wrap64 (rd x0 x1)) 127) (IntKind.u64.wrap (wrap64 (7 * x8))))) (wrap64 (x8 + 1)))) else (none)) else (none)) else (none)) else (some (0, 0, false))
end
def impl_GetNum.f (k : Nat) (l0 : List Int) (a1 : Int) : Option (Int × Int × Bool) := (impl_inRange.f a1 0 (wrap64 ((l0.length : Int) - 1))).bind fun t601 => (if t601 = true then (impl_GetNum.l0 k l0 a1 0 0) else (some (0, 0, false)))
set_option maxHeartbeats 8000000 in
set_option maxRecDepth 100000 in
theorem impl_GetNum.calls (k : Nat) (A0 : Option Addr) (c0 : Nat) (l0 : List Int) (a1 : Int) (r1 : Int) (r2 : Int) (r3 : Bool) (w : World) (hr0 : Kd.C (Kd.int .u8) w A0 l0.length l0) (hc0 : l0.length ≤ c0) (h : impl_GetNum.f k l0 a1 = some (r1, r2, r3)) :
  Calls Tryz.prog 97 #[.slice A0 l0.length c0, .int .i64 a1] w fun e w' => e = .returned (.tuple #[.int .i64 r1, .int .i64 r2, .bool r3]) ∧ Drawn0 w w' := by
 have HR0 := Aside0.mk hr0
 have HC0 := Aside0.mk hc0
 clear hr0 hc0
 have H : ((impl_inRange.f a1 0 (wrap64 ((l0.length : Int) - 1))).bind fun t601 => (if t601 = true then (impl_GetNum.l0 k l0 a1 0 0) else (some (0, 0, false)))) = some (r1, r2, r3) := h
 clear h
 replace H := bi_ H; obtain ⟨t601, A3, H⟩ := H
 replace H := itb_ H; obtain ⟨rfl, H⟩ | ⟨rfl, H⟩ := H
 ·have H' := Aside0.mk H
  clear H
  go_enter Tryz.func97, Tryz.ntmps97
  go_wp2_with (first | ((with_reducible refine gq_ 63 14 ?_); refine gc_ 14 Tryz.func63 (impl_inRange.calls a1 0 (wrap64 ((l0.length : Int) - 1)) true _ A3.out) ?_; rintro e w' ⟨rfl, ⟨nd, rfl⟩⟩; refine ⟨_, rfl, ?_⟩))
  go_loopg [1, 7, 8] k (fun kq v1 v7 v8 w' => ∃ (x1_1 : Int) (x7_1 : Int) (x8_1 : Int), v1 = .int .i64 x1_1 ∧ v7 = .int .i64 x7_1 ∧ v8 = .int .i64 x8_1 ∧ Aside0 (impl_GetNum.l0 kq l0 x1_1 x7_1 x8_1 = some (r1, r2, r3)) ∧ Aside0 (kq ≤ k) ∧ Drawn0 w w')
  case atStart => exact ⟨(a1), (0), (0), e1_, e1_, e1_, H', ⟨Nat.le_refl _⟩, dw_⟩
  case round =>
   clear H'
   obtain ⟨x1_1, x7_1, x8_1, rfl, rfl, rfl, HA, HK1, ⟨m1, rfl⟩⟩ := hrel
   cases gk with
   | zero => exact absurd HA.out (by simp [impl_GetNum.l0])
   | succ k1 =>
    have H := HA.out
    clear HA
    simp only [impl_GetNum.l0] at H
    have HC5 := Aside0.mk H
    clear H
    go_upto_region 5 with (fail)
    go_cut [23] (fun v23 wc => ∃ (kq : Nat) (x23_4 : Bool), v23 = .bool x23_4 ∧ Aside0 (impl_GetNum.j1 kq l0 x1_1 x7_1 x8_1 x23_4 = some (r1, r2, r3)) ∧ Aside0 (kq ≤ k1) ∧ Drawn0 w wc)
    case first =>
     have H := HC5.out
     clear HC5
     replace H := itd_ H; obtain ⟨c6b0, H⟩ | ⟨c6b0, H⟩ := H
     ·(first | rw [c6b0] | (simp only [i64_w, i32_w]; rw [c6b0]) | skip)
      have H' := Aside0.mk H
      clear H
      go_wp2
      go_meet
      case rel => exact ⟨_, (decide (x1_1 < (l0.length : Int))), e1_, H', ⟨by have := HK1.out; first | omega | exact Nat.le_refl _⟩, dw_⟩
     ·(first | rw [c6b0] | (simp only [i64_w, i32_w]; rw [c6b0]) | skip)
      have H' := Aside0.mk H
      clear H
      go_wp2
      go_meet
      case rel => exact ⟨_, (false), e1_, H', ⟨by have := HK1.out; first | omega | exact Nat.le_refl _⟩, dw_⟩
    case rest =>
     clear HC5
     try clear p2
     try clear c4
     obtain ⟨kq, x23_4, rfl, HA, HJ4, ⟨mc4, rfl⟩⟩ := hcut
     cases kq with
     | zero => exact absurd HA.out (by simp [impl_GetNum.j1])
     | succ kj4 =>
      have H := HA.out
      clear HA
      simp only [impl_GetNum.j1] at H
      replace H := itb_ H; obtain ⟨rfl, H⟩ | ⟨rfl, H⟩ := H
      ·replace H := ipd_ H; obtain ⟨c8b0, H⟩ := H
       replace H := ipd_ H; obtain ⟨c9b0, H⟩ := H
       generalize hji10 : (IntKind.u64.wrap (wrap64 (7 * x8_1))) = ji10 at H
       replace H := ip_ H; obtain ⟨c11, H⟩ := H
       have c11b0 := eq_true c11
       have c11b1 := decide_eq_true c11
       clear c11
       generalize hji12 : (shl .i64 (Go.bits .and .i64 (wrap64 (rd l0 x1_1)) 127) (ji10)) = ji12 at H
       have hji12_ : (IntKind.i64.wrap ((Go.bits .and .i64 (wrap64 (rd l0 x1_1)) 127) * 2 ^ min (ji10).toNat 64)) = ji12 := hji12
       have hji12z : (ji10) ≤ 64 → (IntKind.i64.wrap ((Go.bits .and .i64 (wrap64 (rd l0 x1_1)) 127) * 2 ^ (ji10).toNat)) = ji12 := shl_small hji12
       have hji12y : (wrap64 ((Go.bits .and .i64 (wrap64 (rd l0 x1_1)) 127) * 2 ^ min (ji10).toNat 64)) = ji12 := (i64_w _).symm.trans hji12_
       have hji12x : (ji10) ≤ 64 → (wrap64 ((Go.bits .and .i64 (wrap64 (rd l0 x1_1)) 127) * 2 ^ (ji10).toNat)) = ji12 := fun h_ => (i64_w _).symm.trans (hji12z h_)
       replace H := itd_ H; obtain ⟨c13b0, H⟩ | ⟨c13b0, H⟩ := H
       ·replace H := it_ H; obtain ⟨c14, H⟩ | ⟨c14, H⟩ := H
        ·have c14b0 : ((wrap64 (rd l0 x1_1)) == 0) = true := beq_iff_eq.mpr c14
         have c14b1 : ((wrap64 (rd l0 x1_1)) != 0) = false := bne_eq_false_iff_eq.mpr c14
         clear c14
         replace H := it_ H; obtain ⟨c15, H⟩ | ⟨c15, H⟩ := H
         ·have c15b0 : decide (0 < x8_1) = true := decide_eq_true c15
          clear c15
          replace H := so3_ H; obtain ⟨rfl, rfl, rfl⟩ := H
          obtain ⟨ad602, e602, hx602_0, p602, q602⟩ := ai_ HR0.out x1_1
          cases e602
          go_wp2
          go_ret3
          exact ⟨by first | rfl | (simp; done) | (simp only [← hji10, ← hji12] <;> (first | rfl | simp)) | (simp [*]; done), dw_⟩
         ·have c15b0 : decide (0 < x8_1) = false := decide_eq_false c15
          clear c15
          replace H := it_ H; obtain ⟨c16, H⟩ | ⟨c16, H⟩ := H
          ·have c16b0 : decide (1000000000 < (Go.bits .or .i64 x7_1 (ji12))) = true := decide_eq_true c16
           clear c16
           replace H := so3_ H; obtain ⟨rfl, rfl, rfl⟩ := H
           obtain ⟨ad602, e602, hx602_0, p602, q602⟩ := ai_ HR0.out x1_1
           cases e602
           go_wp2
           go_ret3
           exact ⟨by first | rfl | (simp; done) | (simp only [← hji10, ← hji12] <;> (first | rfl | simp)) | (simp [*]; done), dw_⟩
          ·have c16b0 : decide (1000000000 < (Go.bits .or .i64 x7_1 (ji12))) = false := decide_eq_false c16
           clear c16
           replace H := so3_ H; obtain ⟨rfl, rfl, rfl⟩ := H
           obtain ⟨ad602, e602, hx602_0, p602, q602⟩ := ai_ HR0.out x1_1
           cases e602
           go_wp2
           go_ret3
           exact ⟨by first | rfl | (simp; done) | (simp only [← hji10, ← hji12] <;> (first | rfl | simp)) | (simp [*]; done), dw_⟩
        ·have c14b0 : ((wrap64 (rd l0 x1_1)) == 0) = false := beq_eq_false_iff_ne.mpr c14
         have c14b1 : ((wrap64 (rd l0 x1_1)) != 0) = true := bne_iff_ne.mpr c14
         replace H := it_ H; obtain ⟨c17, H⟩ | ⟨c17, H⟩ := H
         ·have c17b0 : decide (1000000000 < (Go.bits .or .i64 x7_1 (ji12))) = true := decide_eq_true c17
          clear c17
          replace H := so3_ H; obtain ⟨rfl, rfl, rfl⟩ := H
          obtain ⟨ad602, e602, hx602_0, p602, q602⟩ := ai_ HR0.out x1_1
          cases e602
          go_wp2
          go_ret3
          exact ⟨by first | rfl | (simp; done) | (simp only [← hji10, ← hji12] <;> (first | rfl | simp)) | (simp [*]; done), dw_⟩
         ·have c17b0 : decide (1000000000 < (Go.bits .or .i64 x7_1 (ji12))) = false := decide_eq_false c17
          clear c17
          replace H := so3_ H; obtain ⟨rfl, rfl, rfl⟩ := H
          obtain ⟨ad602, e602, hx602_0, p602, q602⟩ := ai_ HR0.out x1_1
          cases e602
          go_wp2
          go_ret3
          exact ⟨by first | rfl | (simp; done) | (simp only [← hji10, ← hji12] <;> (first | rfl | simp)) | (simp [*]; done), dw_⟩
       ·have H' := Aside0.mk H
        clear H
        obtain ⟨ad602, e602, hx602_0, p602, q602⟩ := ai_ HR0.out x1_1
        cases e602
        go_wp2
        go_roundg kj4
        case measure => have := HK1.out; have := HJ4.out; omega
        case rel => exact ⟨(wrap64 (x1_1 + 1)), (Go.bits .or .i64 x7_1 (ji12)), (wrap64 (x8_1 + 1)), e1_, (by first | rfl | (simp; done) | (simp only [← hji12] <;> (first | rfl | simp)) | (simp [*]; done)), e1_, H', ⟨by have := HK1.out; have := HJ4.out; omega⟩, dw_⟩
      ·replace H := so3_ H; obtain ⟨rfl, rfl, rfl⟩ := H
       go_wp2
       go_ret3
       exact ⟨e1_, dw_⟩
 ·replace H := so3_ H; obtain ⟨rfl, rfl, rfl⟩ := H
  go_enter Tryz.func97, Tryz.ntmps97
  go_wp2_with (first | ((with_reducible refine gq_ 63 14 ?_); refine gc_ 14 Tryz.func63 (impl_inRange.calls a1 0 (wrap64 ((l0.length : Int) - 1)) false _ A3.out) ?_; rintro e w' ⟨rfl, ⟨nd, rfl⟩⟩; refine ⟨_, rfl, ?_⟩))
  go_ret3
  exact ⟨e1_, dw_⟩
mutual
def spec_GetNum.l0 : Nat → List Int → Int → Int → Int → Option (Int × Int × Bool)
 | 0, _, _, _, _ => none
 | k + 1, x0, x1, x7, x8 => if x8 < 5 then (if x1 ≥ 0 then (if x1 < (x0.length : Int) then (spec_GetNum.j1 k x0 x1 x7 x8 (decide ((wrap64 (x1 + x8)) < (x0.length : Int)))) else (spec_GetNum.j1 k x0 x1 x7 x8 false)) else (spec_GetNum.j1 k x0 x1 x7 x8 false)) else (spec_GetNum.j1 k x0 x1 x7 x8 false)
def spec_GetNum.j1 : Nat → List Int → Int → Int → Int → Bool → Option (Int × Int × Bool)
 | 0, _, _, _, _, _ => none
 | k + 1, x0, x1, x7, x8, x29 => if x29 = true then (if 0 ≤ (wrap64 (x1 + x8)) then (if (wrap64 (x1 + x8)) < (x0.length : Int) then (if 0 ≤ (IntKind.u64.wrap (wrap64 (7 * x8))) then (if (wrap64 (rd x0 (wrap64 (x1 + x8)))) > 127 then (spec_GetNum.l0 k x0 x1 (Go.bits .or .i64 x7 (shl .i64 (Go.bits .and .i64 (wrap64 (rd x0 (wrap64 (x1 + x8)))) 127) (IntKind.u64.wrap (wrap64 (7 * x8))))) (wrap64 (x8 + 1))) else (if x8 > 0 then (if (wrap64 (rd x0 (wrap64 (x1 + x8)))) = 0 then (some (0, 0, false)) else (if (Go.bits .or .i64 x7 (shl .i64 (Go.bits .and .i64 (wrap64 (rd x0 (wrap64 (x1 + x8)))) 127) (IntKind.u64.wrap (wrap64 (7 * x8))))) > 1000000000 then (some (0, 0, false)) else (some (Go.bits .or .i64 x7 (shl .i64 (Go.bits .and .i64 (wrap64 (rd x0 (wrap64 (x1 + x8)))) 127) (IntKind.u64.wrap (wrap64 (7 * x8)))), wrap64 ((wrap64 (x1 + x8)) + 1), true)))) else (if (Go.bits .or .i64 x7 (shl .i64 (Go.bits .and .i64 (wrap64 (rd x0 (wrap64 (x1 + x8)))) 127) (IntKind.u64.wrap (wrap64 (7 * x8))))) > 1000000000 then (some (0, 0, false)) else (some (Go.bits .or .i64 x7 (shl .i64 (Go.bits .and .i64 (wrap64 (rd x0 (wrap64 (x1 + x8)))) 127) (IntKind.u64.wrap (wrap64 (7 * x8)))), wrap64 ((wrap64 (x1 + x8)) + 1), true))))) else (none)) else (none)) else (none)) else (some (0, 0, false))
end
def spec_GetNum.f (k : Nat) (l0 : List Int) (a1 : Int) : Option (Int × Int × Bool) := spec_GetNum.l0 k l0 a1 0 0
set_option maxHeartbeats 8000000 in
set_option maxRecDepth 100000 in
theorem spec_GetNum.calls (k : Nat) (A0 : Option Addr) (c0 : Nat) (l0 : List Int) (a1 : Int) (r1 : Int) (r2 : Int) (r3 : Bool) (w : World) (hr0 : Kd.C (Kd.int .u8) w A0 l0.length l0) (hc0 : l0.length ≤ c0) (h : spec_GetNum.f k l0 a1 = some (r1, r2, r3)) :
  Calls Tryz.prog 147 #[.slice A0 l0.length c0, .int .i64 a1] w fun e w' => e = .returned (.tuple #[.int .i64 r1, .int .i64 r2, .bool r3]) ∧ Drawn0 w w' := by
 have HR0 := Aside0.mk hr0
 have HC0 := Aside0.mk hc0
 clear hr0 hc0
 have H : (spec_GetNum.l0 k l0 a1 0 0) = some (r1, r2, r3) := h
 clear h
 have H' := Aside0.mk H
 clear H
 go_enter Tryz.func147, Tryz.ntmps147
 go_wp2
 go_loopg [7, 8] k (fun kq v7 v8 w' => ∃ (x7_1 : Int) (x8_1 : Int), v7 = .int .i64 x7_1 ∧ v8 = .int .i64 x8_1 ∧ Aside0 (spec_GetNum.l0 kq l0 a1 x7_1 x8_1 = some (r1, r2, r3)) ∧ Aside0 (kq ≤ k) ∧ Drawn0 w w')
 case atStart => exact ⟨(0), (0), e1_, e1_, H', ⟨Nat.le_refl _⟩, dw_⟩
 case round =>
  clear H'
  obtain ⟨x7_1, x8_1, rfl, rfl, HA, HK1, ⟨m1, rfl⟩⟩ := hrel
  cases gk with
  | zero => exact absurd HA.out (by simp [spec_GetNum.l0])
  | succ k1 =>
   have H := HA.out
   clear HA
   simp only [spec_GetNum.l0] at H
   have HC3 := Aside0.mk H
   clear H
   go_upto_region 3 with (fail)
   go_cut [29] (fun v29 wc => ∃ (kq : Nat) (x29_2 : Bool), v29 = .bool x29_2 ∧ Aside0 (spec_GetNum.j1 kq l0 a1 x7_1 x8_1 x29_2 = some (r1, r2, r3)) ∧ Aside0 (kq ≤ k1) ∧ Drawn0 w wc)
   case first =>
    have H := HC3.out
    clear HC3
    replace H := itd_ H; obtain ⟨c4b0, H⟩ | ⟨c4b0, H⟩ := H
    ·(first | rw [c4b0] | (simp only [i64_w, i32_w]; rw [c4b0]) | skip)
     replace H := it_ H; obtain ⟨c5, H⟩ | ⟨c5, H⟩ := H
     ·have c5b0 : decide (0 ≤ a1) = true := decide_eq_true c5
      clear c5
      replace H := itd_ H; obtain ⟨c6b0, H⟩ | ⟨c6b0, H⟩ := H
      ·have H' := Aside0.mk H
       clear H
       go_wp2
       go_meet
       case rel => exact ⟨_, (decide ((wrap64 (a1 + x8_1)) < (l0.length : Int))), e1_, H', ⟨by have := HK1.out; first | omega | exact Nat.le_refl _⟩, dw_⟩
      ·have H' := Aside0.mk H
       clear H
       go_wp2
       go_meet
       case rel => exact ⟨_, (false), e1_, H', ⟨by have := HK1.out; first | omega | exact Nat.le_refl _⟩, dw_⟩
     ·have c5b0 : decide (0 ≤ a1) = false := decide_eq_false c5
      clear c5
      have H' := Aside0.mk H
      clear H
      go_wp2
      go_meet
      case rel => exact ⟨_, (false), e1_, H', ⟨by have := HK1.out; first | omega | exact Nat.le_refl _⟩, dw_⟩
    ·(first | rw [c4b0] | (simp only [i64_w, i32_w]; rw [c4b0]) | skip)
     have H' := Aside0.mk H
     clear H
     go_wp2
     go_meet
     case rel => exact ⟨_, (false), e1_, H', ⟨by have := HK1.out; first | omega | exact Nat.le_refl _⟩, dw_⟩
   case rest =>
    clear HC3
    try clear c1
    try clear p2
    obtain ⟨kq, x29_2, rfl, HA, HJ2, ⟨mc2, rfl⟩⟩ := hcut
    cases kq with
    | zero => exact absurd HA.out (by simp [spec_GetNum.j1])
    | succ kj2 =>
     have H := HA.out
     clear HA
     simp only [spec_GetNum.j1] at H
     replace H := itb_ H; obtain ⟨rfl, H⟩ | ⟨rfl, H⟩ := H
     ·generalize hji8 : (wrap64 (a1 + x8_1)) = ji8 at H
      have hji8w : (IntKind.i64.wrap (a1 + x8_1)) = ji8 := (i64_w _).trans hji8
      replace H := ipd_ H; obtain ⟨c9b0, H⟩ := H
      replace H := ipd_ H; obtain ⟨c10b0, H⟩ := H
      generalize hji11 : (IntKind.u64.wrap (wrap64 (7 * x8_1))) = ji11 at H
      replace H := ip_ H; obtain ⟨c12, H⟩ := H
      have c12b0 := eq_true c12
      have c12b1 := decide_eq_true c12
      clear c12
      generalize hji13 : (shl .i64 (Go.bits .and .i64 (wrap64 (rd l0 (ji8))) 127) (ji11)) = ji13 at H
      have hji13_ : (IntKind.i64.wrap ((Go.bits .and .i64 (wrap64 (rd l0 (ji8))) 127) * 2 ^ min (ji11).toNat 64)) = ji13 := hji13
      have hji13z : (ji11) ≤ 64 → (IntKind.i64.wrap ((Go.bits .and .i64 (wrap64 (rd l0 (ji8))) 127) * 2 ^ (ji11).toNat)) = ji13 := shl_small hji13
      have hji13y : (wrap64 ((Go.bits .and .i64 (wrap64 (rd l0 (ji8))) 127) * 2 ^ min (ji11).toNat 64)) = ji13 := (i64_w _).symm.trans hji13_
      have hji13x : (ji11) ≤ 64 → (wrap64 ((Go.bits .and .i64 (wrap64 (rd l0 (ji8))) 127) * 2 ^ (ji11).toNat)) = ji13 := fun h_ => (i64_w _).symm.trans (hji13z h_)
      replace H := it_ H; obtain ⟨c14, H⟩ | ⟨c14, H⟩ := H
      ·have c14b0 : decide (127 < (wrap64 (rd l0 (ji8)))) = true := decide_eq_true c14
       clear c14
       have H' := Aside0.mk H
       clear H
       obtain ⟨ad601, e601, hx601_0, p601, q601⟩ := ai_ HR0.out (ji8)
       cases e601
       go_wp2
       go_roundg kj2
       case measure => have := HK1.out; have := HJ2.out; omega
       case rel => exact ⟨(Go.bits .or .i64 x7_1 (ji13)), (wrap64 (x8_1 + 1)), (by first | rfl | (simp; done) | (simp only [← hji13] <;> (first | rfl | simp)) | (simp [*]; done)), e1_, H', ⟨by have := HK1.out; have := HJ2.out; omega⟩, dw_⟩
      ·have c14b0 : decide (127 < (wrap64 (rd l0 (ji8)))) = false := decide_eq_false c14
       clear c14
       replace H := it_ H; obtain ⟨c15, H⟩ | ⟨c15, H⟩ := H
       ·have c15b0 : decide (0 < x8_1) = true := decide_eq_true c15
        clear c15
        replace H := it_ H; obtain ⟨c16, H⟩ | ⟨c16, H⟩ := H
        ·have c16b0 : ((wrap64 (rd l0 (ji8))) == 0) = true := beq_iff_eq.mpr c16
         have c16b1 : ((wrap64 (rd l0 (ji8))) != 0) = false := bne_eq_false_iff_eq.mpr c16
         clear c16
         replace H := so3_ H; obtain ⟨rfl, rfl, rfl⟩ := H
         obtain ⟨ad601, e601, hx601_0, p601, q601⟩ := ai_ HR0.out (ji8)
         cases e601
         go_wp2
         go_ret3
         exact ⟨by first | rfl | (simp; done) | (simp only [← hji8, ← hji11, ← hji13] <;> (first | rfl | simp)) | (simp [*]; done), dw_⟩
        ·have c16b0 : ((wrap64 (rd l0 (ji8))) == 0) = false := beq_eq_false_iff_ne.mpr c16
         have c16b1 : ((wrap64 (rd l0 (ji8))) != 0) = true := bne_iff_ne.mpr c16
         replace H := it_ H; obtain ⟨c17, H⟩ | ⟨c17, H⟩ := H
         ·have c17b0 : decide (1000000000 < (Go.bits .or .i64 x7_1 (ji13))) = true := decide_eq_true c17
          clear c17
          replace H := so3_ H; obtain ⟨rfl, rfl, rfl⟩ := H
          obtain ⟨ad601, e601, hx601_0, p601, q601⟩ := ai_ HR0.out (ji8)
          cases e601
          go_wp2
          go_ret3
          exact ⟨by first | rfl | (simp; done) | (simp only [← hji8, ← hji11, ← hji13] <;> (first | rfl | simp)) | (simp [*]; done), dw_⟩
         ·have c17b0 : decide (1000000000 < (Go.bits .or .i64 x7_1 (ji13))) = false := decide_eq_false c17
          clear c17
          replace H := so3_ H; obtain ⟨rfl, rfl, rfl⟩ := H
          obtain ⟨ad601, e601, hx601_0, p601, q601⟩ := ai_ HR0.out (ji8)
          cases e601
          go_wp2
          go_ret3
          exact ⟨by first | rfl | (simp; done) | (simp only [← hji8, ← hji11, ← hji13] <;> (first | rfl | simp)) | (simp [*]; done), dw_⟩
       ·have c15b0 : decide (0 < x8_1) = false := decide_eq_false c15
        clear c15
        replace H := it_ H; obtain ⟨c18, H⟩ | ⟨c18, H⟩ := H
        ·have c18b0 : decide (1000000000 < (Go.bits .or .i64 x7_1 (ji13))) = true := decide_eq_true c18
         clear c18
         replace H := so3_ H; obtain ⟨rfl, rfl, rfl⟩ := H
         obtain ⟨ad601, e601, hx601_0, p601, q601⟩ := ai_ HR0.out (ji8)
         cases e601
         go_wp2
         go_ret3
         exact ⟨by first | rfl | (simp; done) | (simp only [← hji8, ← hji11, ← hji13] <;> (first | rfl | simp)) | (simp [*]; done), dw_⟩
        ·have c18b0 : decide (1000000000 < (Go.bits .or .i64 x7_1 (ji13))) = false := decide_eq_false c18
         clear c18
         replace H := so3_ H; obtain ⟨rfl, rfl, rfl⟩ := H
         obtain ⟨ad601, e601, hx601_0, p601, q601⟩ := ai_ HR0.out (ji8)
         cases e601
         go_wp2
         go_ret3
         exact ⟨by first | rfl | (simp; done) | (simp only [← hji8, ← hji11, ← hji13] <;> (first | rfl | simp)) | (simp [*]; done), dw_⟩
     ·replace H := so3_ H; obtain ⟨rfl, rfl, rfl⟩ := H
      go_wp2
      go_ret3
      exact ⟨e1_, dw_⟩
end Go.Proofs.YtnlndmoecljicaaGreat.Q
end
section
namespace Go.Proofs.YtnlndmoecljicaaGreat.Q
open Go.RowKit Go.Proofs.YtnlndmoecljicaaGreat.B Go.Proofs.YtnlndmoecljicaaGreatW.PrintWords Go.Proofs.YtnlndmoecljicaaGreatW.PrintMore
set_option linter.unusedVariables false
set_option linter.unusedSimpArgs false
theorem and127 (c : Int) (h0 : 0 ≤ c) (h1 : c < 9223372036854775808) : Go.bits .and .i64 c 127 = c % 128 := bits_mask .i64 63 (by decide) wraps63 7 (by decide) c h0 h1
theorem or128 (c : Int) (h0 : 0 ≤ c) (h1 : c < 128) : Go.bits .or .i64 c 128 = 128 + c := by
 rw [or_swap]
 exact bits_join .i64 63 (by decide) wraps63 7 128 c (by decide) (by decide) (by decide) h0 h1 (by omega)
theorem bit_at (n c p u : Int) (e : Nat) (hu : u = (e : Int)) (he : e ≤ 28) (hp : p = 2 ^ e) (hq : p ≤ 268435456) (hn0 : 0 ≤ n) (hn1 : n < p) (hc0 : 0 ≤ c) (hc1 : c ≤ 255) : Go.bits .or .i64 n (shl .i64 (Go.bits .and .i64 c 127) u) = n + p * (c % 128) := by
 rw [and127 c hc0 (by omega)]
 obtain ⟨d, hd⟩ : ∃ d, c % 128 = d := ⟨_, rfl⟩
 have hd0 : 0 ≤ d := by omega
 have hd1 : d ≤ 127 := by omega
 rw [hd]
 have hp0 : 0 ≤ p := by omega
 have hm : d * p ≤ 127 * 268435456 := Int.mul_le_mul hd1 hq hp0 (by decide)
 have hm0 : 0 ≤ d * p := Int.mul_nonneg hd0 hp0
 have hs : shl .i64 d u = d * p := by
  unfold shl
  rw [hu, Int.toNat_natCast, Nat.min_eq_left (show e ≤ IntKind.i64.bits by show e ≤ 64; omega), ← hp]
  exact wraps63 _ hm0 (by omega)
 rw [hs, or_swap, bits_join .i64 63 (by decide) wraps63 e (d * p) n hm0 (by rw [hp]; exact Int.mul_emod_left _ _) (by omega) hn0 (by rw [← hp]; exact hn1) (by omega), Int.mul_comm d p]
 omega
theorem u64_w (n : Int) : IntKind.u64.wrap n = n % 18446744073709551616 := by simp [IntKind.wrap, IntKind.bits, IntKind.signed]
theorem u7 (k : Nat) (hk : k ≤ 4) : IntKind.u64.wrap (wrap64 (7 * (k : Int))) = ((7 * k : Nat) : Int) := by
 rw [w64 (by omega) (by omega), u64_w]
 omega
theorem pow7 (k : Nat) : (128 : Nat) ^ k = 2 ^ (7 * k) := by rw [Nat.pow_mul]
theorem bit_step (n c k : Nat) (hk : k ≤ 4) (hn : n < 128 ^ k) (hc : c ≤ 255) : Go.bits .or .i64 (n : Int) (shl .i64 (Go.bits .and .i64 (c : Int) 127) ((7 * k : Nat) : Int)) = ((n + 128 ^ k * (c % 128) : Nat) : Int) := by
 have h4 : (128 : Nat) ^ k ≤ 128 ^ 4 := Nat.pow_le_pow_right (by decide) hk
 have h5 : (128 : Nat) ^ 4 = 268435456 := by decide
 have e := pow7 k
 have := bit_at (n : Int) (c : Int) ((128 ^ k : Nat) : Int) _ (7 * k) rfl (by omega) (by rw [e, Int.natCast_pow]; rfl) (by omega) (by omega) (by omega) (by omega) (by omega)
 rw [this, Int.natCast_add, Int.natCast_mul, Int.natCast_emod]
 rfl
def NumAt (b : List Int) (a k n : Nat) (m x : Int) (ok : Bool) : Prop :=
 (ok = false → m = 0 ∧ x = 0 ∧ ∀ N r, b.drop (a + k) = num N ++ r → n + 128 ^ k * N ≤ 1000000000 → (0 < k → 0 < N) → False) ∧
 (ok = true → ∃ N : Nat, m = ((n + 128 ^ k * N : Nat) : Int) ∧ n + 128 ^ k * N ≤ 1000000000 ∧ (0 < k → 0 < N) ∧ b.drop (a + k) = num N ++ b.drop (a + k + (num N).length) ∧ x = ((a + k + (num N).length : Nat) : Int) ∧ a + k + (num N).length ≤ b.length)
theorem numAt_more {b : List Int} {a k n c : Nat} {m x : Int} {ok : Bool} (hk : k ≤ 4) (hd : b.drop (a + k) = (c : Int) :: b.drop (a + k + 1)) (hc : 127 < c) (hc2 : c ≤ 255) (h : NumAt b a (k + 1) (n + 128 ^ k * (c % 128)) m x ok) : NumAt b a k n m x ok := by
 have e : ∀ N, n + 128 ^ k * (c % 128) + 128 ^ (k + 1) * N = n + 128 ^ k * (c % 128 + 128 * N) := fun N => by
  rw [Nat.pow_succ, Nat.mul_add, Nat.mul_assoc]
  omega
 refine ⟨fun ho => ?_, fun ho => ?_⟩
 ·obtain ⟨h1, h2, h3⟩ := h.1 ho
  refine ⟨h1, h2, fun N r hN hM hP => ?_⟩
  by_cases h9 : 127 < N
  ·rw [num_more h9, hd, List.cons_append] at hN
   injection hN with ha hb
   refine h3 (N / 128) r hb ?_ (fun _ => by omega)
   rw [e]
   have : c % 128 + 128 * (N / 128) = N := by omega
   rw [this]
   exact hM
  ·rw [num_one h9, hd, List.cons_append] at hN
   injection hN with ha hb
   omega
 ·obtain ⟨N, h1, h2, h3, h4, h5, h6⟩ := h.2 ho
  have h3 := h3 (by omega)
  have hN : 127 < c % 128 + 128 * N := by omega
  have hn : num (c % 128 + 128 * N) = (c : Int) :: num N := by
   rw [num_more hN, show (c % 128 + 128 * N) / 128 = N by omega]
   congr 1
   omega
  refine ⟨c % 128 + 128 * N, by rw [h1, e], by rw [← e]; exact h2, fun _ => by omega, ?_, ?_, ?_⟩
  ·rw [hn, hd, List.length_cons, List.cons_append]
   congr 1
   rw [show a + k + ((num N).length + 1) = a + (k + 1) + (num N).length by omega]
   exact h4
  ·rw [hn, List.length_cons, h5]
   congr 1
   omega
  ·rw [hn, List.length_cons]
   omega
theorem numAt_zero {b : List Int} {a k n : Nat} (hk : 0 < k) (hd : b.drop (a + k) = (0 : Int) :: b.drop (a + k + 1)) : NumAt b a k n 0 0 false := by
 refine ⟨fun _ => ⟨rfl, rfl, fun N r hN hM hP => ?_⟩, fun h => by cases h⟩
 have hP := hP hk
 by_cases h9 : 127 < N
 ·rw [num_more h9, hd, List.cons_append] at hN
  injection hN with ha hb
  omega
 ·rw [num_one h9, hd, List.cons_append] at hN
  injection hN with ha hb
  omega
theorem numAt_great {b : List Int} {a k n c : Nat} (hc : ¬ 127 < c) (hd : b.drop (a + k) = (c : Int) :: b.drop (a + k + 1)) (hg : 1000000000 < n + 128 ^ k * (c % 128)) : NumAt b a k n 0 0 false := by
 refine ⟨fun _ => ⟨rfl, rfl, fun N r hN hM hP => ?_⟩, fun h => by cases h⟩
 by_cases h9 : 127 < N
 ·rw [num_more h9, hd, List.cons_append] at hN
  injection hN with ha hb
  omega
 ·rw [num_one h9, hd, List.cons_append] at hN
  injection hN with ha hb
  have : c % 128 = N := by omega
  rw [this] at hg
  omega
theorem numAt_last {b : List Int} {a k n c : Nat} (hc : ¬ 127 < c) (h0 : 0 < k → 0 < c) (hl : a + k < b.length) (hd : b.drop (a + k) = (c : Int) :: b.drop (a + k + 1)) (hg : n + 128 ^ k * (c % 128) ≤ 1000000000) : NumAt b a k n ((n + 128 ^ k * (c % 128) : Nat) : Int) ((a + k + 1 : Nat) : Int) true := by
 refine ⟨fun h => (by cases h), fun _ => ⟨c, ?_, ?_, h0, ?_, ?_, ?_⟩⟩
 ·rw [show c % 128 = c by omega]
 ·rw [show c % 128 = c by omega] at hg
  exact hg
 ·rw [num_one hc, hd]
  simp
 ·rw [num_one hc]
  simp
 ·rw [num_one hc]
  simp
  omega
theorem numAt_end {b : List Int} {a k n : Nat} (hl : b.length ≤ a + k) : NumAt b a k n 0 0 false := by
 refine ⟨fun _ => ⟨rfl, rfl, fun N r hN hM hP => ?_⟩, fun h => by cases h⟩
 rw [List.drop_eq_nil_of_le hl] at hN
 have := congrArg List.length hN
 have h2 := num_pos N
 rw [List.length_append] at this
 simp only [List.length_nil] at this
 omega
theorem numAt_five {b : List Int} {a n : Nat} : NumAt b a 5 n 0 0 false := by
 refine ⟨fun _ => ⟨rfl, rfl, fun N r hN hM hP => ?_⟩, fun h => by cases h⟩
 have hP := hP (by decide)
 omega
set_option maxHeartbeats 1000000 in
theorem getNum_loop (b : List Int) (hb : InB b) (hl : b.length ≤ 1099511627776) (a : Nat) (hA : a ≤ 1099511627776) : ∀ (d k : Nat), k + d = 5 → ∀ n : Nat, n < 128 ^ k → ∃ m x ok, Ev (fun q => spec_GetNum.l0 q b (a : Int) (n : Int) (k : Int)) (m, x, ok) ∧ Ev (fun q => impl_GetNum.l0 q b ((a + k : Nat) : Int) (n : Int) (k : Int)) (m, x, ok) ∧ NumAt b a k n m x ok := by
 have sEnd : ∀ (n k : Int), Ev (fun q => spec_GetNum.j1 q b (a : Int) n k false) (0, 0, false) := fun n k => by
  refine Ev.step (fun q => by simp only [spec_GetNum.j1]; rfl) ?_
  exact Ev.neg (by simp) (Ev.now _)
 have iEnd : ∀ (x n k : Int), Ev (fun q => impl_GetNum.j1 q b x n k false) (0, 0, false) := fun x n k => by
  refine Ev.step (fun q => by simp only [impl_GetNum.j1]; rfl) ?_
  exact Ev.neg (by simp) (Ev.now _)
 intro d
 induction d with
 | zero =>
  intro k hk n hn
  obtain rfl : k = 5 := by omega
  refine ⟨0, 0, false, ?_, ?_, numAt_five⟩
  ·refine Ev.step (fun q => by simp only [spec_GetNum.l0]; rfl) ?_
   exact Ev.neg (by omega) (sEnd _ _)
  ·refine Ev.step (fun q => by simp only [impl_GetNum.l0]; rfl) ?_
   exact Ev.neg (by omega) (iEnd _ _ _)
 | succ d ih =>
  intro k hk n hn
  have hk4 : k ≤ 4 := by omega
  have e1 := Aside0.mk (show wrap64 ((a : Int) + (k : Int)) = ((a + k : Nat) : Int) by
   rw [w64 (by omega) (by omega)]
   omega)
  have hk5 : (k : Int) < 5 := by omega
  by_cases hx : a + k < b.length
  ·obtain ⟨c, hc⟩ := get_some (l := b) (i := a + k) hx
   have hd := drop_one hc
   have hcr := hb c (List.mem_of_getElem? hc)
   obtain ⟨c, rfl⟩ := Int.eq_ofNat_of_zero_le hcr.1
   have hc255 : c ≤ 255 := by omega
   have e2 := Aside0.mk (show rd b ((a + k : Nat) : Int) = (c : Int) from rd_at hc)
   have e3 := Aside0.mk (show wrap64 (c : Int) = (c : Int) from w64 (by omega) (by omega))
   have e4 := Aside0.mk (u7 k hk4)
   have e5 := Aside0.mk (bit_step n c k hk4 hn hc255)
   have e6 := Aside0.mk (show wrap64 ((k : Int) + 1) = ((k + 1 : Nat) : Int) by
    rw [w64 (by omega) (by omega)]
    omega)
   have e7 := Aside0.mk (show wrap64 (((a + k : Nat) : Int) + 1) = ((a + (k + 1) : Nat) : Int) by
    rw [w64 (by omega) (by omega)]
    omega)
   have hlt : ((a + k : Nat) : Int) < (b.length : Int) := by omega
   have h70 : (0 : Int) ≤ ((7 * k : Nat) : Int) := by omega
   have ha0 : (0 : Int) ≤ ((a + k : Nat) : Int) := by omega
   have key : ∀ r, Ev (fun q => spec_GetNum.j1 q b (a : Int) (n : Int) (k : Int) true) r → Ev (fun q => spec_GetNum.l0 q b (a : Int) (n : Int) (k : Int)) r := fun r h => by
    refine Ev.step (fun q => by simp only [spec_GetNum.l0, e1.out, decide_eq_true hlt]; rfl) ?_
    exact Ev.pos hk5 (Ev.pos (by omega) (Ev.pos (by omega) h))
   have key2 : ∀ r, Ev (fun q => impl_GetNum.j1 q b ((a + k : Nat) : Int) (n : Int) (k : Int) true) r → Ev (fun q => impl_GetNum.l0 q b ((a + k : Nat) : Int) (n : Int) (k : Int)) r := fun r h => by
    refine Ev.step (fun q => by simp only [impl_GetNum.l0, decide_eq_true hlt]; rfl) ?_
    exact Ev.pos hk5 h
   by_cases h127 : 127 < c
   ·have hn2 : n + 128 ^ k * (c % 128) < 128 ^ (k + 1) := by
     have := Nat.mul_le_mul_left (128 ^ k) (show c % 128 ≤ 127 by omega)
     rw [Nat.pow_succ]
     omega
    obtain ⟨m, x, ok, s1, s2, s3⟩ := ih (k + 1) (by omega) _ hn2
    refine ⟨m, x, ok, key _ ?_, key2 _ ?_, numAt_more hk4 hd h127 hc255 s3⟩
    ·refine Ev.step (fun q => by simp only [spec_GetNum.j1, e1.out, e2.out, e3.out, e4.out, e5.out, e6.out]; rfl) ?_
     exact Ev.pos trivial (Ev.pos ha0 (Ev.pos hlt (Ev.pos h70 (Ev.pos (by omega) s1))))
    ·refine Ev.step (fun q => by simp only [impl_GetNum.j1, e2.out, e3.out, e4.out, e5.out, e6.out, e7.out]; rfl) ?_
     exact Ev.pos trivial (Ev.pos ha0 (Ev.pos hlt (Ev.pos h70 (Ev.neg (by omega) s2))))
   ·by_cases hz : 0 < k ∧ c = 0
    ·obtain ⟨hk0, rfl⟩ := hz
     refine ⟨0, 0, false, key _ ?_, key2 _ ?_, numAt_zero hk0 hd⟩
     ·refine Ev.step (fun q => by simp only [spec_GetNum.j1, e1.out, e2.out, e3.out, e4.out, e5.out, e6.out]; rfl) ?_
      exact Ev.pos trivial (Ev.pos ha0 (Ev.pos hlt (Ev.pos h70 (Ev.neg (by omega) (Ev.pos (by omega) (Ev.pos (by omega) (Ev.now _)))))))
     ·refine Ev.step (fun q => by simp only [impl_GetNum.j1, e2.out, e3.out, e4.out, e5.out, e6.out, e7.out]; rfl) ?_
      exact Ev.pos trivial (Ev.pos ha0 (Ev.pos hlt (Ev.pos h70 (Ev.pos (by omega) (Ev.pos (by omega) (Ev.pos (by omega) (Ev.now _)))))))
    ·obtain ⟨v, hv⟩ : ∃ v, n + 128 ^ k * (c % 128) = v := ⟨_, rfl⟩
     by_cases hg : 1000000000 < v
     ·refine ⟨0, 0, false, key _ ?_, key2 _ ?_, numAt_great h127 hd (by rw [hv]; exact hg)⟩
      ·refine Ev.step (fun q => by simp only [spec_GetNum.j1, e1.out, e2.out, e3.out, e4.out, e5.out, e6.out, hv]; rfl) ?_
       refine Ev.pos trivial (Ev.pos ha0 (Ev.pos hlt (Ev.pos h70 (Ev.neg (by omega) ?_))))
       by_cases hk0 : 0 < k
       ·exact Ev.pos (by omega) (Ev.neg (by omega) (Ev.pos (by omega) (Ev.now _)))
       ·exact Ev.neg (by omega) (Ev.pos (by omega) (Ev.now _))
      ·refine Ev.step (fun q => by simp only [impl_GetNum.j1, e2.out, e3.out, e4.out, e5.out, e6.out, e7.out, hv]; rfl) ?_
       refine Ev.pos trivial (Ev.pos ha0 (Ev.pos hlt (Ev.pos h70 (Ev.pos (by omega) ?_))))
       by_cases hc0 : c = 0
       ·exact Ev.pos (by omega) (Ev.neg (by omega) (Ev.pos (by omega) (Ev.now _)))
       ·exact Ev.neg (by omega) (Ev.pos (by omega) (Ev.now _))
     ·have hlast := numAt_last (n := n) h127 (fun hk0 => by omega) hx hd (by rw [hv]; omega)
      rw [hv] at hlast
      refine ⟨(v : Int), ((a + k + 1 : Nat) : Int), true, key _ ?_, key2 _ ?_, hlast⟩
      ·refine Ev.step (fun q => by simp only [spec_GetNum.j1, e1.out, e2.out, e3.out, e4.out, e5.out, e6.out, e7.out, hv]; rfl) ?_
       refine Ev.pos trivial (Ev.pos ha0 (Ev.pos hlt (Ev.pos h70 (Ev.neg (by omega) ?_))))
       by_cases hk0 : 0 < k
       ·exact Ev.pos (by omega) (Ev.neg (by omega) (Ev.neg (by omega) (Ev.now _)))
       ·exact Ev.neg (by omega) (Ev.neg (by omega) (Ev.now _))
      ·refine Ev.step (fun q => by simp only [impl_GetNum.j1, e2.out, e3.out, e4.out, e5.out, e6.out, e7.out, hv]; rfl) ?_
       refine Ev.pos trivial (Ev.pos ha0 (Ev.pos hlt (Ev.pos h70 (Ev.pos (by omega) ?_))))
       by_cases hc0 : c = 0
       ·exact Ev.pos (by omega) (Ev.neg (by omega) (Ev.neg (by omega) (Ev.now _)))
       ·exact Ev.neg (by omega) (Ev.neg (by omega) (Ev.now _))
  ·refine ⟨0, 0, false, ?_, ?_, numAt_end (by omega)⟩
   ·have hn : ¬ ((a + k : Nat) : Int) < (b.length : Int) := by omega
    refine Ev.step (fun q => by simp only [spec_GetNum.l0, e1.out, decide_eq_false hn]; rfl) ?_
    refine Ev.pos hk5 (Ev.pos (by omega) ?_)
    by_cases h2 : (a : Int) < (b.length : Int)
    ·exact Ev.pos h2 (sEnd _ _)
    ·exact Ev.neg h2 (sEnd _ _)
   ·have hn : ¬ ((a + k : Nat) : Int) < (b.length : Int) := by omega
    refine Ev.step (fun q => by simp only [impl_GetNum.l0, decide_eq_false hn]; rfl) ?_
    exact Ev.pos hk5 (iEnd _ _ _)
def NumOf (b : List Int) (at_ m x : Int) (ok : Bool) : Prop :=
 (ok = false → m = 0 ∧ x = 0 ∧ ∀ (a N : Nat) r, at_ = (a : Int) → b.drop a = num N ++ r → N ≤ 1000000000 → False) ∧
 (ok = true → ∃ a N : Nat, at_ = (a : Int) ∧ m = (N : Int) ∧ N ≤ 1000000000 ∧ b.drop a = num N ++ b.drop (a + (num N).length) ∧ x = ((a + (num N).length : Nat) : Int) ∧ a + (num N).length ≤ b.length)
theorem getNum_both (b : List Int) (hb : InB b) (hl : b.length ≤ 1099511627776) (at_ : Int) (h0 : -9223372036854775808 ≤ at_) (h1 : at_ ≤ 9223372036854775807) : ∃ m x ok, Ev (fun q => spec_GetNum.f q b at_) (m, x, ok) ∧ Ev (fun q => impl_GetNum.f q b at_) (m, x, ok) ∧ NumOf b at_ m x ok := by
 have hw : wrap64 ((b.length : Int) - 1) = (b.length : Int) - 1 := w64 (by omega) (by omega)
 by_cases hr : 0 ≤ at_ ∧ at_ ≤ (b.length : Int) - 1
 ·obtain ⟨a, rfl⟩ := Int.eq_ofNat_of_zero_le hr.1
  obtain ⟨m, x, ok, s1, s2, s3⟩ := getNum_loop b hb hl a (by omega) 5 0 rfl 0 (by decide)
  refine ⟨m, x, ok, ?_, ?_, ?_⟩
  ·exact s1
  ·unfold impl_GetNum.f
   rw [hw]
   exact Ev.bind (Ev.const (impl_in_eq _ _ _)) (Ev.pos (decide_eq_true hr) s2)
  ·refine ⟨fun ho => ?_, fun ho => ?_⟩
   ·obtain ⟨q1, q2, q3⟩ := s3.1 ho
    refine ⟨q1, q2, fun a' N r ha' hN hM => ?_⟩
    obtain rfl : a = a' := by omega
    exact q3 N r hN (by simpa using hM) (fun h => by omega)
   ·obtain ⟨N, q1, q2, _, q4, q5, q6⟩ := s3.2 ho
    exact ⟨a, N, rfl, by simpa using q1, by simpa using q2, by simpa using q4, by simpa using q5, by simpa using q6⟩
 ·refine ⟨0, 0, false, ?_, ?_, ?_⟩
  ·unfold spec_GetNum.f
   refine Ev.step (fun q => by simp only [spec_GetNum.l0]; rfl) ?_
   have hj : ∀ x : Bool, x = false → Ev (fun q => spec_GetNum.j1 q b at_ 0 0 x) (0, 0, false) := fun x hx => by
    subst hx
    refine Ev.step (fun q => by simp only [spec_GetNum.j1]; rfl) ?_
    exact Ev.neg (by simp) (Ev.now _)
   refine Ev.pos (by decide) ?_
   by_cases h2 : at_ ≥ 0
   ·refine Ev.pos h2 (Ev.neg (by omega) (hj _ rfl))
   ·exact Ev.neg h2 (hj _ rfl)
  ·unfold impl_GetNum.f
   rw [hw]
   exact Ev.bind (Ev.const (impl_in_eq _ _ _)) (Ev.neg (by rw [decide_eq_false hr]; simp) (Ev.now _))
  ·refine ⟨fun _ => ⟨rfl, rfl, fun a N r ha hN hM => ?_⟩, fun h => by cases h⟩
   have h2 := num_pos N
   have := congrArg List.length hN
   rw [List.length_append, List.length_drop] at this
   omega
theorem byte_more (x : Nat) (h : x ≤ 1000000000) : (Go.bits .or .i64 (Go.bits .and .i64 (x : Int) 127) 128) % 256 = ((128 + x % 128 : Nat) : Int) := by
 rw [and127 _ (by omega) (by omega), or128 _ (by omega) (by omega)]
 omega
theorem num_val : ∀ (k x : Nat) (acc : List Int), x < 128 ^ (k + 1) → x ≤ 1000000000 → acc.length + k ≤ 1099511627776 →
  Ev (fun q => spec_PutNum.l0 q (x : Int) acc) (acc ++ num x) ∧ Ev (fun q => impl_putNum.l0 q acc (x : Int)) (acc ++ num x) := by
 intro k
 induction k with
 | zero =>
  intro x acc h1 h2 h3
  have hx : ¬ (x : Int) > 127 := by omega
  have e : (x : Int) % 256 = (x : Int) := by omega
  rw [num_one (by omega)]
  refine ⟨?_, ?_⟩
  ·refine Ev.step (fun q => by simp only [spec_PutNum.l0, e]; rfl) ?_
   exact Ev.neg hx (Ev.pos (by omega) (Ev.now _))
  ·refine Ev.step (fun q => by simp only [impl_putNum.l0, e]; rfl) ?_
   exact Ev.neg hx (Ev.pos (by omega) (Ev.now _))
 | succ k ih =>
  intro x acc h1 h2 h3
  by_cases hx : (x : Int) > 127
  ·have e1 := Aside0.mk (byte_more x h2)
   have e2 := Aside0.mk (show (x : Int) / 128 = ((x / 128 : Nat) : Int) by omega)
   have hp : x / 128 < 128 ^ (k + 1) := by
    rw [Nat.pow_succ] at h1
    omega
   obtain ⟨i1, i2⟩ := ih (x / 128) (acc ++ [((128 + x % 128 : Nat) : Int)]) hp (by omega) (by simp; omega)
   have en : acc ++ num x = acc ++ [((128 + x % 128 : Nat) : Int)] ++ num (x / 128) := by
    rw [num_more (by omega)]
    simp
   rw [en]
   refine ⟨?_, ?_⟩
   ·refine Ev.step (fun q => by simp only [spec_PutNum.l0, e1.out, e2.out]; rfl) ?_
    exact Ev.pos hx (Ev.pos (by omega) i1)
   ·refine Ev.step (fun q => by simp only [impl_putNum.l0, or_swap 128 (Go.bits .and .i64 (x : Int) 127), e1.out, e2.out]; rfl) ?_
    exact Ev.pos hx (Ev.pos (by omega) i2)
  ·have e : (x : Int) % 256 = (x : Int) := by omega
   rw [num_one (by omega)]
   refine ⟨?_, ?_⟩
   ·refine Ev.step (fun q => by simp only [spec_PutNum.l0, e]; rfl) ?_
    exact Ev.neg hx (Ev.pos (by omega) (Ev.now _))
   ·refine Ev.step (fun q => by simp only [impl_putNum.l0, e]; rfl) ?_
    exact Ev.neg hx (Ev.pos (by omega) (Ev.now _))
theorem putNum_val (l : List Int) (n : Nat) (hn : n ≤ 1000000000) (hl : l.length ≤ 1099511627000) : Ev (fun q => spec_PutNum.f q l (n : Int)) (l ++ num n) ∧ Ev (fun q => impl_putNum.f q l (n : Int)) (l ++ num n) := by
 have hm : mx 0 (mn (n : Int) 1000000000) = (n : Int) := by
  unfold mx mn
  by_cases h : (1000000000 : Int) < (n : Int)
  ·omega
  ·rw [if_neg h]
   by_cases h2 : (0 : Int) < (n : Int)
   ·rw [if_pos h2]
   ·rw [if_neg h2]
    omega
 obtain ⟨i1, i2⟩ := num_val 4 n l (by omega) hn (by omega)
 refine ⟨?_, ?_⟩
 ·unfold spec_PutNum.f
  refine Ev.bind (Ev.now _) ?_
  simp only [List.nil_append, List.length_nil]
  refine Ev.pos (by omega) (Ev.bind (Ev.now _) (Ev.neg (by omega) ?_))
  refine Ev.step (fun q => by simp only [spec_PutNum.j0]; rfl) ?_
  refine Ev.neg (by omega) ?_
  exact Ev.step (fun q => by simp only [spec_PutNum.j1]) i1
 ·unfold impl_putNum.f
  rw [hm]
  exact i2
theorem putText_val (l : List Int) (s : ByteArray) (hs : s.size ≤ 1000000000) (hl : l.length ≤ 1099511626000) : Ev (fun q => spec_PutText.f q l s) (l ++ textB s) ∧ Ev (fun q => impl_putText.f q l s) (l ++ textB s) := by
 obtain ⟨i1, i2⟩ := putNum_val l s.size hs (by omega)
 have h5 := num_five hs
 unfold textB
 rw [← List.append_assoc]
 refine ⟨?_, ?_⟩
 ·unfold spec_PutText.f
  exact Ev.bind i1 (Ev.pos (by rw [List.length_append]; omega) (Ev.now _))
 ·unfold impl_putText.f
  exact Ev.bind i2 (Ev.pos (by rw [List.length_append]; omega) (Ev.now _))
theorem manyB_length (t : List ByteArray) (h : ∀ s ∈ t, s.size ≤ 1000000000) : ((manyB t).length : Int) ≤ 5 * t.length + total t := by
 induction t with
 | nil => simp [manyB_nil, total]
 | cons s t ih =>
  have i := ih (fun x hx => h x (List.mem_cons_of_mem _ hx))
  have h5 := num_five (h s (List.mem_cons_self ..))
  rw [manyB_cons, List.length_append, textB_length, total_cons, List.length_cons]
  omega
set_option maxHeartbeats 1000000 in
theorem putTexts_val (l : List Int) (t : List ByteArray) (hl : (l.length : Int) + 10 * t.length + total t ≤ 1099511620000) (ht : t.length ≤ 1000000000) (hs : ∀ s ∈ t, s.size ≤ 1000000000) :
  Ev (fun q => spec_PutTexts.f q l t) (l ++ textsB t) ∧ Ev (fun q => impl_putTexts.f q l t) (l ++ textsB t) := by
 have ht0 := total_nonneg t
 obtain ⟨e1, e2⟩ := putNum_val l t.length ht (by omega)
 have h5 := num_five ht
 have main : ∀ (d i : Nat) (acc : List Int), i + d = t.length → (acc.length : Int) + 10 * d + total (t.drop i) ≤ 1099511621000 → Ev (fun q => spec_PutTexts.l0 q t acc (i : Int)) (acc ++ manyB (t.drop i)) ∧ Ev (fun q => impl_putTexts.l0 q acc t (t.length : Int) (i : Int)) (acc ++ manyB (t.drop i)) := by
  intro d
  induction d with
  | zero =>
   intro i acc hi ha
   have hd : t.drop i = [] := List.drop_eq_nil_of_le (by omega)
   rw [hd, manyB_nil, List.append_nil]
   refine ⟨?_, ?_⟩
   ·refine Ev.step (fun q => by simp only [spec_PutTexts.l0]; rfl) ?_
    exact Ev.neg (by omega) (Ev.now _)
   ·refine Ev.step (fun q => by simp only [impl_putTexts.l0]; rfl) ?_
    exact Ev.neg (by omega) (Ev.now _)
  | succ d ih =>
   intro i acc hi ha
   have hi1 : i < t.length := by
    clear ha hl
    omega
   have hI : (i : Int) < (t.length : Int) := Int.ofNat_lt.2 hi1
   have hI0 : (0 : Int) ≤ (i : Int) := Int.natCast_nonneg i
   obtain ⟨x, hx⟩ := get_some (l := t) (i := i) hi1
   have hd := drop_one hx
   have hxs := hs x (List.mem_of_getElem? hx)
   have hx5 := num_five hxs
   have h0 := total_nonneg (t.drop (i + 1))
   rw [hd, total_cons] at ha
   obtain ⟨p1, p2⟩ := putText_val acc x hxs (by omega)
   obtain ⟨f1, f2⟩ := ih (i + 1) (acc ++ textB x) (by omega) (by rw [List.length_append, textB_length]; omega)
   have nx : wrap64 ((i : Int) + 1) = ((i + 1 : Nat) : Int) := by
    clear ha hl
    rw [w64 (by omega) (by omega)]
    omega
   have en : acc ++ manyB (t.drop i) = acc ++ textB x ++ manyB (t.drop (i + 1)) := by rw [hd, manyB_cons, List.append_assoc]
   rw [en]
   refine ⟨?_, ?_⟩
   ·refine Ev.step (fun q => by simp only [spec_PutTexts.l0]; rfl) ?_
    rw [rdOf_at hx, nx]
    refine Ev.pos hI (Ev.pos hI0 ?_)
    exact Ev.bind (f := fun q z => spec_PutTexts.l0 q t z ((i + 1 : Nat) : Int)) p1 f1
   ·refine Ev.step (fun q => by simp only [impl_putTexts.l0]; rfl) ?_
    rw [rdOf_at hx, nx]
    refine Ev.pos hI (Ev.pos hI0 (Ev.pos hI ?_))
    exact Ev.bind (f := fun q z => impl_putTexts.l0 q z t (t.length : Int) ((i + 1 : Nat) : Int)) p2 f2
 obtain ⟨f1, f2⟩ := main t.length 0 (l ++ num t.length) (by omega) (by rw [List.length_append, List.drop_zero]; omega)
 rw [List.drop_zero] at f1 f2
 unfold textsB
 rw [← List.append_assoc]
 refine ⟨?_, ?_⟩
 ·unfold spec_PutTexts.f
  exact Ev.bind e1 f1
 ·unfold impl_putTexts.f
  exact Ev.bind e2 f2
end Go.Proofs.YtnlndmoecljicaaGreat.Q
end
section
namespace Go.Proofs.YtnlndmoecljicaaGreat.Q
open Go.RowKit Go.Proofs.YtnlndmoecljicaaGreatW.PrintWords Go.Proofs.YtnlndmoecljicaaGreatW.PrintLast Go.Proofs.YtnlndmoecljicaaGreatW.PrintMore
attribute [local go_sem] max2_int min2_int max_two min_two max_three min_three max_four min_four   -- for this text's walks alone
set_option linter.unusedVariables false
set_option linter.unusedSimpArgs false
def spec_GetText.f (k : Nat) (l0 : List Int) (a1 : Int) : Option (ByteArray × Int × Bool) := (spec_GetNum.f k l0 a1).bind fun bt601 => (if bt601.2.2 = true then (if bt601.1 > (wrap64 ((l0.length : Int) - bt601.2.1)) then (some ((⟨#[]⟩ : ByteArray), 0, false)) else (if 0 ≤ bt601.2.1 then (if bt601.2.1 ≤ (wrap64 (bt601.2.1 + bt601.1)) then (if (wrap64 (bt601.2.1 + bt601.1)) ≤ (l0.length : Int) then (some (strOfNums ((l0.take ((wrap64 (bt601.2.1 + bt601.1)) : Int).toNat).drop (bt601.2.1 : Int).toNat), wrap64 (bt601.2.1 + bt601.1), true)) else (none)) else (none)) else (none))) else (some ((⟨#[]⟩ : ByteArray), 0, false)))
set_option maxHeartbeats 8000000 in
set_option maxRecDepth 100000 in
theorem spec_GetText.calls (k : Nat) (A0 : Option Addr) (c0 : Nat) (l0 : List Int) (a1 : Int) (r1 : ByteArray) (r2 : Int) (r3 : Bool) (w : World) (hr0 : Kd.C (Kd.int .u8) w A0 l0.length l0) (hc0 : l0.length ≤ c0) (h : spec_GetText.f k l0 a1 = some (r1, r2, r3)) :
  Calls Tryz.prog 148 #[.slice A0 l0.length c0, .int .i64 a1] w fun e w' => e = .returned (.tuple #[.string r1, .int .i64 r2, .bool r3]) ∧ Drawn0 w w' := by
 have HR0 := Aside0.mk hr0
 have HC0 := Aside0.mk hc0
 clear hr0 hc0
 have H : ((spec_GetNum.f k l0 a1).bind fun bt601 => (if bt601.2.2 = true then (if bt601.1 > (wrap64 ((l0.length : Int) - bt601.2.1)) then (some ((⟨#[]⟩ : ByteArray), 0, false)) else (if 0 ≤ bt601.2.1 then (if bt601.2.1 ≤ (wrap64 (bt601.2.1 + bt601.1)) then (if (wrap64 (bt601.2.1 + bt601.1)) ≤ (l0.length : Int) then (some (strOfNums ((l0.take ((wrap64 (bt601.2.1 + bt601.1)) : Int).toNat).drop (bt601.2.1 : Int).toNat), wrap64 (bt601.2.1 + bt601.1), true)) else (none)) else (none)) else (none))) else (some ((⟨#[]⟩ : ByteArray), 0, false)))) = some (r1, r2, r3) := h
 clear h
 replace H := bi_ H; obtain ⟨⟨t601, t602, t603⟩, A3, H⟩ := H
 dsimp only at H
 replace H := itb_ H; obtain ⟨rfl, H⟩ | ⟨rfl, H⟩ := H
 ·replace H := it_ H; obtain ⟨c5, H⟩ | ⟨c5, H⟩ := H
  ·have c5b0 : decide ((wrap64 ((l0.length : Int) - t602)) < t601) = true := decide_eq_true c5
   clear c5
   replace H := so3_ H; obtain ⟨rfl, rfl, rfl⟩ := H
   go_enter Tryz.func148, Tryz.ntmps148
   go_wp2_with (first | ((with_reducible refine gq_ 147 13 ?_); refine gc_ 13 Tryz.func147 (spec_GetNum.calls k _ _ l0 a1 t601 t602 true _ (cr_ HR0.out) HC0.out A3.out) ?_; rintro e w' ⟨rfl, ⟨nd, rfl⟩⟩; refine ⟨_, rfl, ?_⟩))
   go_ret3
   exact ⟨e1_, dw_⟩
  ·have c5b0 : decide ((wrap64 ((l0.length : Int) - t602)) < t601) = false := decide_eq_false c5
   clear c5
   replace H := ip_ H; obtain ⟨c6, H⟩ := H
   have c6b0 := eq_true c6
   have c6b1 := decide_eq_true c6
   clear c6
   replace H := ip_ H; obtain ⟨c7, H⟩ := H
   have c7b0 := eq_true c7
   have c7b1 := decide_eq_true c7
   replace H := ip_ H; obtain ⟨c8, H⟩ := H
   have c8b0 := eq_true c8
   have c8b1 := decide_eq_true c8
   replace H := so3_ H; obtain ⟨rfl, rfl, rfl⟩ := H
   go_enter Tryz.func148, Tryz.ntmps148
   go_wp2_with (first | ((with_reducible refine gq_ 147 13 ?_); refine gc_ 13 Tryz.func147 (spec_GetNum.calls k _ _ l0 a1 t601 t602 true _ (cr_ HR0.out) HC0.out A3.out) ?_; rintro e w' ⟨rfl, ⟨nd, rfl⟩⟩; refine ⟨_, rfl, ?_⟩; obtain ⟨i09, hi09, _, hsz9, _⟩ := info_parts info5; obtain ⟨A9, hcut9, hA9, hC9⟩ := print_mid_of (P := Tryz.prog) (Value.int .u8) 0 27 5 .i64 .i64 Tryz.underlying27 hi09 hsz9 A0 c0 l0 t602 (wrap64 (t602 + t601)) (of_decide_eq_true as_) (by first | omega | exact of_decide_eq_true as_) (of_decide_eq_true as_) HC0.out; have HR604 := Aside0.mk (Kd.C_of_reads (h1 := fun _ => rfl) (hA9 _ (Kd.reads_of_C HR0.out))); have HC604 := Aside0.mk hC9; clear hA9 hC9 hi09 hsz9; have hcv10 := Kd.C_string (P := Tryz.prog) (A := A9) (c := (c0 - t602.toNat)) Tryz.underlying27 Tryz.underlying5 Tryz.underlying9 (Kd.C_drewN HR604.out nd); have hcvq10 := hcv10; rw [show ((l0.take ((wrap64 (t602 + t601)) : Int).toNat).drop (t602 : Int).toNat).length = ((wrap64 (t602 + t601)).toNat - t602.toNat) from (by rw [List.length_drop, List.length_take]; have h_ : ((wrap64 (t602 + t601)) : Int) ≤ (l0.length : Int) := of_decide_eq_true as_; omega)] at hcvq10))
   go_ret3
   exact ⟨e1_, dw_⟩
 ·replace H := so3_ H; obtain ⟨rfl, rfl, rfl⟩ := H
  go_enter Tryz.func148, Tryz.ntmps148
  go_wp2_with (first | ((with_reducible refine gq_ 147 13 ?_); refine gc_ 13 Tryz.func147 (spec_GetNum.calls k _ _ l0 a1 t601 t602 false _ (cr_ HR0.out) HC0.out A3.out) ?_; rintro e w' ⟨rfl, ⟨nd, rfl⟩⟩; refine ⟨_, rfl, ?_⟩))
  go_ret3
  exact ⟨e1_, dw_⟩
def impl_GetText.f (k : Nat) (l0 : List Int) (a1 : Int) : Option (ByteArray × Int × Bool) := (impl_GetNum.f k l0 a1).bind fun bt601 => (if bt601.2.2 = true then (if bt601.1 > (wrap64 ((l0.length : Int) - bt601.2.1)) then (some ((⟨#[]⟩ : ByteArray), 0, false)) else (if 0 ≤ bt601.2.1 then (if bt601.2.1 ≤ (wrap64 (bt601.2.1 + bt601.1)) then (if (wrap64 (bt601.2.1 + bt601.1)) ≤ (l0.length : Int) then (some (strOfNums ((l0.take ((wrap64 (bt601.2.1 + bt601.1)) : Int).toNat).drop (bt601.2.1 : Int).toNat), wrap64 (bt601.2.1 + bt601.1), true)) else (none)) else (none)) else (none))) else (some ((⟨#[]⟩ : ByteArray), 0, false)))
set_option maxHeartbeats 8000000 in
set_option maxRecDepth 100000 in
theorem impl_GetText.calls (k : Nat) (A0 : Option Addr) (c0 : Nat) (l0 : List Int) (a1 : Int) (r1 : ByteArray) (r2 : Int) (r3 : Bool) (w : World) (hr0 : Kd.C (Kd.int .u8) w A0 l0.length l0) (hc0 : l0.length ≤ c0) (h : impl_GetText.f k l0 a1 = some (r1, r2, r3)) :
  Calls Tryz.prog 130 #[.slice A0 l0.length c0, .int .i64 a1] w fun e w' => e = .returned (.tuple #[.string r1, .int .i64 r2, .bool r3]) ∧ Drawn0 w w' := by
 have HR0 := Aside0.mk hr0
 have HC0 := Aside0.mk hc0
 clear hr0 hc0
 have H : ((impl_GetNum.f k l0 a1).bind fun bt601 => (if bt601.2.2 = true then (if bt601.1 > (wrap64 ((l0.length : Int) - bt601.2.1)) then (some ((⟨#[]⟩ : ByteArray), 0, false)) else (if 0 ≤ bt601.2.1 then (if bt601.2.1 ≤ (wrap64 (bt601.2.1 + bt601.1)) then (if (wrap64 (bt601.2.1 + bt601.1)) ≤ (l0.length : Int) then (some (strOfNums ((l0.take ((wrap64 (bt601.2.1 + bt601.1)) : Int).toNat).drop (bt601.2.1 : Int).toNat), wrap64 (bt601.2.1 + bt601.1), true)) else (none)) else (none)) else (none))) else (some ((⟨#[]⟩ : ByteArray), 0, false)))) = some (r1, r2, r3) := h
 clear h
 replace H := bi_ H; obtain ⟨⟨t601, t602, t603⟩, A3, H⟩ := H
 dsimp only at H
 replace H := itb_ H; obtain ⟨rfl, H⟩ | ⟨rfl, H⟩ := H
 ·replace H := it_ H; obtain ⟨c5, H⟩ | ⟨c5, H⟩ := H
  ·have c5b0 : decide ((wrap64 ((l0.length : Int) - t602)) < t601) = true := decide_eq_true c5
   clear c5
   replace H := so3_ H; obtain ⟨rfl, rfl, rfl⟩ := H
   go_enter Tryz.func130, Tryz.ntmps130
   go_wp2_with (first | ((with_reducible refine gq_ 97 13 ?_); refine gc_ 13 Tryz.func97 (impl_GetNum.calls k _ _ l0 a1 t601 t602 true _ (cr_ HR0.out) HC0.out A3.out) ?_; rintro e w' ⟨rfl, ⟨nd, rfl⟩⟩; refine ⟨_, rfl, ?_⟩))
   go_ret3
   exact ⟨e1_, dw_⟩
  ·have c5b0 : decide ((wrap64 ((l0.length : Int) - t602)) < t601) = false := decide_eq_false c5
   clear c5
   replace H := ip_ H; obtain ⟨c6, H⟩ := H
   have c6b0 := eq_true c6
   have c6b1 := decide_eq_true c6
   clear c6
   replace H := ip_ H; obtain ⟨c7, H⟩ := H
   have c7b0 := eq_true c7
   have c7b1 := decide_eq_true c7
   replace H := ip_ H; obtain ⟨c8, H⟩ := H
   have c8b0 := eq_true c8
   have c8b1 := decide_eq_true c8
   replace H := so3_ H; obtain ⟨rfl, rfl, rfl⟩ := H
   go_enter Tryz.func130, Tryz.ntmps130
   go_wp2_with (first | ((with_reducible refine gq_ 97 13 ?_); refine gc_ 13 Tryz.func97 (impl_GetNum.calls k _ _ l0 a1 t601 t602 true _ (cr_ HR0.out) HC0.out A3.out) ?_; rintro e w' ⟨rfl, ⟨nd, rfl⟩⟩; refine ⟨_, rfl, ?_⟩; obtain ⟨i09, hi09, _, hsz9, _⟩ := info_parts info5; obtain ⟨A9, hcut9, hA9, hC9⟩ := print_mid_of (P := Tryz.prog) (Value.int .u8) 0 27 5 .i64 .i64 Tryz.underlying27 hi09 hsz9 A0 c0 l0 t602 (wrap64 (t602 + t601)) (of_decide_eq_true as_) (by first | omega | exact of_decide_eq_true as_) (of_decide_eq_true as_) HC0.out; have HR604 := Aside0.mk (Kd.C_of_reads (h1 := fun _ => rfl) (hA9 _ (Kd.reads_of_C HR0.out))); have HC604 := Aside0.mk hC9; clear hA9 hC9 hi09 hsz9; have hcv10 := Kd.C_string (P := Tryz.prog) (A := A9) (c := (c0 - t602.toNat)) Tryz.underlying27 Tryz.underlying5 Tryz.underlying9 (Kd.C_drewN HR604.out nd); have hcvq10 := hcv10; rw [show ((l0.take ((wrap64 (t602 + t601)) : Int).toNat).drop (t602 : Int).toNat).length = ((wrap64 (t602 + t601)).toNat - t602.toNat) from (by rw [List.length_drop, List.length_take]; have h_ : ((wrap64 (t602 + t601)) : Int) ≤ (l0.length : Int) := of_decide_eq_true as_; omega)] at hcvq10))
   go_ret3
   exact ⟨e1_, dw_⟩
 ·replace H := so3_ H; obtain ⟨rfl, rfl, rfl⟩ := H
  go_enter Tryz.func130, Tryz.ntmps130
  go_wp2_with (first | ((with_reducible refine gq_ 97 13 ?_); refine gc_ 13 Tryz.func97 (impl_GetNum.calls k _ _ l0 a1 t601 t602 false _ (cr_ HR0.out) HC0.out A3.out) ?_; rintro e w' ⟨rfl, ⟨nd, rfl⟩⟩; refine ⟨_, rfl, ?_⟩))
  go_ret3
  exact ⟨e1_, dw_⟩
mutual
def spec_GetTexts.j0 : Nat → List Int → Int → Int → Bool → Option (List ByteArray × Int × Bool)
 | 0, _, _, _, _ => none
 | k + 1, x0, x7, x8, x27 => if x27 = true then (some ((([] : List ByteArray)), 0, false)) else (spec_GetTexts.l0 k x0 x7 x8 (([] : List ByteArray)) 0)
def spec_GetTexts.l0 : Nat → List Int → Int → Int → List ByteArray → Int → Option (List ByteArray × Int × Bool)
 | 0, _, _, _, _, _ => none
 | k + 1, x0, x7, x8, x10, x11 => if x11 < x7 then ((spec_GetText.f k x0 x8).bind fun bt610 => (if bt610.2.2 = true then (if x10.length < 8796093022208 then (spec_GetTexts.l0 k x0 x7 bt610.2.1 (x10 ++ [bt610.1]) (wrap64 (x11 + 1))) else (none)) else (some ((([] : List ByteArray)), 0, false)))) else (some (x10, x8, true))
end
def spec_GetTexts.f (k : Nat) (l0 : List Int) (a1 : Int) : Option (List ByteArray × Int × Bool) := (spec_GetNum.f k l0 a1).bind fun bt601 => (if bt601.2.2 = true then (spec_GetTexts.j0 k l0 bt601.1 bt601.2.1 (decide (bt601.1 > 200))) else (spec_GetTexts.j0 k l0 bt601.1 bt601.2.1 true))
set_option maxHeartbeats 8000000 in
set_option maxRecDepth 100000 in
theorem spec_GetTexts.calls (k : Nat) (A0 : Option Addr) (c0 : Nat) (l0 : List Int) (a1 : Int) (r1 : List ByteArray) (r2 : Int) (r3 : Bool) (w : World) (hr0 : Kd.C (Kd.int .u8) w A0 l0.length l0) (hc0 : l0.length ≤ c0) (h : spec_GetTexts.f k l0 a1 = some (r1, r2, r3)) :
  Calls Tryz.prog 149 #[.slice A0 l0.length c0, .int .i64 a1] w fun e w' => ∃ v0_ : Value, e = .returned (.tuple #[v0_, .int .i64 r2, .bool r3]) ∧ Kd.R Kd.string 9 w' w.heap.size (fun _ => True) v0_ r1 ∧ Below w.heap.size w w' := by
 have HR0 := Aside0.mk hr0
 have HC0 := Aside0.mk hc0
 clear hr0 hc0
 have HB := Aside0.mk (Below.refl w.heap.size w)
 have H : ((spec_GetNum.f k l0 a1).bind fun bt601 => (if bt601.2.2 = true then (spec_GetTexts.j0 k l0 bt601.1 bt601.2.1 (decide (bt601.1 > 200))) else (spec_GetTexts.j0 k l0 bt601.1 bt601.2.1 true))) = some (r1, r2, r3) := h
 clear h
 replace H := bi_ H; obtain ⟨⟨t601, t602, t603⟩, A3, H⟩ := H
 dsimp only at H
 have HC4 := Aside0.mk H
 clear H
 go_enter Tryz.func149, Tryz.ntmps149
 go_upto_region 2 with (first | ((with_reducible refine gq_ 147 18 ?_); refine gc_ 18 Tryz.func147 (spec_GetNum.calls k _ _ l0 a1 t601 t602 t603 _ (cr_ HR0.out) HC0.out A3.out) ?_; rintro e w' ⟨rfl, ⟨nd, rfl⟩⟩; refine ⟨_, rfl, ?_⟩))
 (try simp only [Act.put, List.setIfInBounds_toArray, List.set_cons_zero, List.set_cons_succ])
 go_cut [27] (fun v27 wc => ∃ (kq : Nat) (x27_3 : Bool), v27 = .bool x27_3 ∧ Aside0 (spec_GetTexts.j0 kq l0 t601 t602 x27_3 = some (r1, r2, r3)) ∧ Aside0 (kq ≤ k) ∧ Aside0 (Below w.heap.size w wc))
 case first =>
  have H := HC4.out
  clear HC4
  replace H := itb_ H; obtain ⟨rfl, H⟩ | ⟨rfl, H⟩ := H
  ·have H' := Aside0.mk H
   clear H
   go_wp2
   go_meet
   case rel => exact ⟨_, (decide (t601 > 200)), e1_, H', ⟨le_⟩, ⟨bw_ HB⟩⟩
  ·have H' := Aside0.mk H
   clear H
   go_wp2
   go_meet
   case rel => exact ⟨_, (true), e1_, H', ⟨le_⟩, ⟨bw_ HB⟩⟩
 case rest =>
  clear HC4
  obtain ⟨kq, x27_3, rfl, HA, HJ3, HB⟩ := hcut
  cases kq with
  | zero => exact absurd HA.out (by simp [spec_GetTexts.j0])
  | succ kj3 =>
   have H := HA.out
   clear HA
   simp only [spec_GetTexts.j0] at H
   replace H := itb_ H; obtain ⟨rfl, H⟩ | ⟨rfl, H⟩ := H
   ·obtain ⟨y604, hy604⟩ : ∃ y_ : List ByteArray, y_ = (([] : List ByteArray)) := ⟨_, rfl⟩
    replace H : (some (y604, 0, false)) = some (r1, r2, r3) := yh_ hy604 H
    have Ny604 := Aside0.mk hy604
    clear hy604
    replace H := so3_ H; obtain ⟨rfl, rfl, rfl⟩ := H
    go_wp2_with (first | ((with_reducible refine gd_ 28 ?_); refine rl_ Kd.string 9 28 ([] : List ByteArray) [] ?_; intro v605 w7 ho8 hb hg_ hnew_; clear hg_ hnew_; (first | rw [← Ny604.out] at ho8 | (simp only [Int.reduceToNat] at ho8; rw [← Ny604.out] at ho8)); have HO606 := Aside0.mk (Kd.R_lower ho8 (sz_ HB)); replace HB := ss_ HB hb; clear hb ho8))
    go_ret3
    exact ⟨_, e2_, kr_ HO606.out, bw_ HB⟩
   ·obtain ⟨y607, hy607⟩ : ∃ y_ : List ByteArray, y_ = (([] : List ByteArray)) := ⟨_, rfl⟩
    replace H : (spec_GetTexts.l0 kj3 l0 t601 t602 y607 0) = some (r1, r2, r3) := yh_ hy607 H
    have Ny607 := Aside0.mk hy607
    clear hy607
    have H' := Aside0.mk H
    clear H
    go_wp2_with (first | ((with_reducible refine gd_ 29 ?_); refine rl_ Kd.string 9 29 ([] : List ByteArray) [] ?_; intro v608 w9 ho10 hb hg_ hnew_; clear hg_ hnew_; (first | rw [← Ny607.out] at ho10 | (simp only [Int.reduceToNat] at ho10; rw [← Ny607.out] at ho10)); have HO609 := Aside0.mk (Kd.R_lower ho10 (sz_ HB)); replace HB := ss_ HB hb; clear hb ho10))
    go_loopg [8, 10, 11] kj3 (fun kq v8 v10 v11 w' => ∃ (x8_2 : Int) (x10_2 : List ByteArray) (x11_2 : Int), v8 = .int .i64 x8_2 ∧ v11 = .int .i64 x11_2 ∧ Aside0 (spec_GetTexts.l0 kq l0 t601 x8_2 x10_2 x11_2 = some (r1, r2, r3)) ∧ Aside0 (kq ≤ kj3) ∧ Aside0 (Kd.R Kd.string 9 w' w.heap.size (fun _ => True) v10 x10_2) ∧ Aside0 (Below w.heap.size w w'))
    case atStart => exact ⟨(t602), (y607), (0), e1_, e1_, H', ⟨Nat.le_refl _⟩, ⟨kr_ HO609.out⟩, ⟨bw_ HB⟩⟩
    case round =>
     clear H'
     try clear c1
     try clear p2
     try clear c5
     obtain ⟨x8_2, x10_2, x11_2, rfl, rfl, HA, HK2, HO_10, HB⟩ := hrel
     cases gk with
     | zero => exact absurd HA.out (by simp [spec_GetTexts.l0])
     | succ k2 =>
      have H := HA.out
      clear HA
      simp only [spec_GetTexts.l0] at H
      replace H := itd_ H; obtain ⟨c11b0, H⟩ | ⟨c11b0, H⟩ := H
      ·replace H := bi_ H; obtain ⟨⟨t610, t611, t612⟩, A12, H⟩ := H
       dsimp only at H
       replace H := itb_ H; obtain ⟨rfl, H⟩ | ⟨rfl, H⟩ := H
       ·replace H := ip_ H; obtain ⟨c14, H⟩ := H
        have LMc14 := Aside0.mk c14
        clear c14
        obtain ⟨y613, hy613⟩ : ∃ y_ : List ByteArray, y_ = (x10_2 ++ [t610]) := ⟨_, rfl⟩
        replace H : (spec_GetTexts.l0 k2 l0 t601 t611 y613 (wrap64 (x11_2 + 1))) = some (r1, r2, r3) := yh_ hy613 H
        have Ny613 := Aside0.mk hy613
        clear hy613
        have H' := Aside0.mk H
        clear H
        go_wp2_with (first | ((with_reducible refine gq_ 148 38 ?_); refine gc_ 38 Tryz.func148 (spec_GetText.calls k2 _ _ l0 x8_2 t610 t611 true _ (cb_ HR0 HB) HC0.out A12.out) ?_; rintro e w' ⟨rfl, ⟨nd, rfl⟩⟩; refine ⟨_, rfl, ?_⟩) | ((with_reducible refine gate_builtin (b := .append) (xs := #[.tmp 45, .tmp 47]) rfl ?_); at_builtin; refine Kd.R_append Kd.string (w0 := w) w.heap.size rfl (.tmp 45) (.tmp 47) 22 9 (.string ⟨#[]⟩) 16 rfl Tryz.underlying22 info9 rfl (by decide) (by omega) u10 x10_2 t610 [.string t610] (fun _ => True) (fun _ => False) rfl rfl ?aP (fun _ hk => hk.elim) ?aF ?aO ?aB ?aS ?aL ?_; (case aP => exact rfl); (case aB => exact (bw_ HB)); (case aF => exact (fun _ _ => trivial)); (case aO => exact (kr_ HO_10.out)); (case aS => exact (sz_ HB)); (case aL => have := LMc14.out; omega); intro v614 w15 ho hb hg hat; rw [← Ny613.out] at ho; replace HB := Aside0.mk hb; have HO615 := Aside0.mk ho; clear HO_10; clear ho hb hg hat))
        go_roundg k2
        case measure => have := HJ3.out; have := HK2.out; omega
        case rel => exact ⟨(t611), (y613), (wrap64 (x11_2 + 1)), e1_, e1_, H', ⟨by have := HJ3.out; have := HK2.out; omega⟩, ⟨kr_ HO615.out⟩, ⟨bw_ HB⟩⟩
       ·obtain ⟨y616, hy616⟩ : ∃ y_ : List ByteArray, y_ = (([] : List ByteArray)) := ⟨_, rfl⟩
        replace H : (some (y616, 0, false)) = some (r1, r2, r3) := yh_ hy616 H
        have Ny616 := Aside0.mk hy616
        clear hy616
        replace H := so3_ H; obtain ⟨rfl, rfl, rfl⟩ := H
        go_wp2_with (first | ((with_reducible refine gq_ 148 38 ?_); refine gc_ 38 Tryz.func148 (spec_GetText.calls k2 _ _ l0 x8_2 t610 t611 false _ (cb_ HR0 HB) HC0.out A12.out) ?_; rintro e w' ⟨rfl, ⟨nd, rfl⟩⟩; refine ⟨_, rfl, ?_⟩) | ((with_reducible refine gd_ 44 ?_); refine rl_ Kd.string 9 44 ([] : List ByteArray) [] ?_; intro v617 w16 ho17 hb hg_ hnew_; clear hg_ hnew_; (first | rw [← Ny616.out] at ho17 | (simp only [Int.reduceToNat] at ho17; rw [← Ny616.out] at ho17)); have HO618 := Aside0.mk (Kd.R_lower (Kd.R_new' ho17 (lt_ HO_10)) (sz_ HB)); replace HO_10 := re_ HO_10 ho17 hb; replace HB := ss_ HB hb; clear hb ho17))
        go_ret3
        exact ⟨_, e2_, by (with_reducible repeat (first | apply Kd.R_alloc | apply Kd.R_drewN | apply Kd.R_drew)); exact Kd.R_mono HO618.out (fun _ hk => trivial), bw_ HB⟩
      ·replace H := so3_ H; obtain ⟨rfl, rfl, rfl⟩ := H
       go_wp2
       go_ret3
       exact ⟨_, e2_, kr_ HO_10.out, bw_ HB⟩
mutual
def impl_GetTexts.j0 : Nat → List Int → Int → Int → Bool → Option (List ByteArray × Int × Bool)
 | 0, _, _, _, _ => none
 | k + 1, x0, x7, x8, x26 => if x26 = true then (some (([] : List ByteArray), 0, false)) else (impl_GetTexts.l0 k x0 x8 ([] : List ByteArray) x7 0)
def impl_GetTexts.l0 : Nat → List Int → Int → List ByteArray → Int → Int → Option (List ByteArray × Int × Bool)
 | 0, _, _, _, _, _ => none
 | k + 1, x0, x8, x10, x27, x28 => if x28 < x27 then ((impl_GetText.f k x0 x8).bind fun bt604 => (if bt604.2.2 = true then (if x10.length < 8796093022208 then (impl_GetTexts.l0 k x0 bt604.2.1 (x10 ++ [bt604.1]) x27 (wrap64 (x28 + 1))) else (none)) else (some (([] : List ByteArray), 0, false)))) else (some (x10, x8, true))
end
def impl_GetTexts.f (k : Nat) (l0 : List Int) (a1 : Int) : Option (List ByteArray × Int × Bool) := (impl_GetNum.f k l0 a1).bind fun bt601 => (if bt601.2.2 = true then (impl_GetTexts.j0 k l0 bt601.1 bt601.2.1 (decide (bt601.1 > 200))) else (impl_GetTexts.j0 k l0 bt601.1 bt601.2.1 true))
set_option maxHeartbeats 8000000 in
set_option maxRecDepth 100000 in
theorem impl_GetTexts.calls (k : Nat) (A0 : Option Addr) (c0 : Nat) (l0 : List Int) (a1 : Int) (r1 : List ByteArray) (r2 : Int) (r3 : Bool) (w : World) (hr0 : Kd.C (Kd.int .u8) w A0 l0.length l0) (hc0 : l0.length ≤ c0) (h : impl_GetTexts.f k l0 a1 = some (r1, r2, r3)) :
  Calls Tryz.prog 131 #[.slice A0 l0.length c0, .int .i64 a1] w fun e w' => ∃ v0_ : Value, e = .returned (.tuple #[v0_, .int .i64 r2, .bool r3]) ∧ Kd.R Kd.string 9 w' w.heap.size (fun _ => True) v0_ r1 ∧ Below w.heap.size w w' := by
 have HR0 := Aside0.mk hr0
 have HC0 := Aside0.mk hc0
 clear hr0 hc0
 have HB := Aside0.mk (Below.refl w.heap.size w)
 have H : ((impl_GetNum.f k l0 a1).bind fun bt601 => (if bt601.2.2 = true then (impl_GetTexts.j0 k l0 bt601.1 bt601.2.1 (decide (bt601.1 > 200))) else (impl_GetTexts.j0 k l0 bt601.1 bt601.2.1 true))) = some (r1, r2, r3) := h
 clear h
 replace H := bi_ H; obtain ⟨⟨t601, t602, t603⟩, A3, H⟩ := H
 dsimp only at H
 have HC4 := Aside0.mk H
 clear H
 go_enter Tryz.func131, Tryz.ntmps131
 go_upto_region 2 with (first | ((with_reducible refine gq_ 97 17 ?_); refine gc_ 17 Tryz.func97 (impl_GetNum.calls k _ _ l0 a1 t601 t602 t603 _ (cr_ HR0.out) HC0.out A3.out) ?_; rintro e w' ⟨rfl, ⟨nd, rfl⟩⟩; refine ⟨_, rfl, ?_⟩))
 (try simp only [Act.put, List.setIfInBounds_toArray, List.set_cons_zero, List.set_cons_succ])
 go_cut [26] (fun v26 wc => ∃ (kq : Nat) (x26_3 : Bool), v26 = .bool x26_3 ∧ Aside0 (impl_GetTexts.j0 kq l0 t601 t602 x26_3 = some (r1, r2, r3)) ∧ Aside0 (kq ≤ k) ∧ Aside0 (Below w.heap.size w wc))
 case first =>
  have H := HC4.out
  clear HC4
  replace H := itb_ H; obtain ⟨rfl, H⟩ | ⟨rfl, H⟩ := H
  ·have H' := Aside0.mk H
   clear H
   go_wp2
   go_meet
   case rel => exact ⟨_, (decide (t601 > 200)), e1_, H', ⟨le_⟩, ⟨bw_ HB⟩⟩
  ·have H' := Aside0.mk H
   clear H
   go_wp2
   go_meet
   case rel => exact ⟨_, (true), e1_, H', ⟨le_⟩, ⟨bw_ HB⟩⟩
 case rest =>
  clear HC4
  obtain ⟨kq, x26_3, rfl, HA, HJ3, HB⟩ := hcut
  cases kq with
  | zero => exact absurd HA.out (by simp [impl_GetTexts.j0])
  | succ kj3 =>
   have H := HA.out
   clear HA
   simp only [impl_GetTexts.j0] at H
   replace H := itb_ H; obtain ⟨rfl, H⟩ | ⟨rfl, H⟩ := H
   ·replace H := so3_ H; obtain ⟨rfl, rfl, rfl⟩ := H
    go_wp2
    go_ret3
    exact ⟨_, e2_, by first | exact Kd.R_nil _ _ _ _ _ | exact Kd.N_nil _ _ _ _ _ | exact Kd.V_nil _ _ _ _ _ | exact Kd.Q_nil _ _ _ _ _ | exact Kd.S_nil _ _ _ _ _, bw_ HB⟩
   ·have H' := Aside0.mk H
    clear H
    go_wp2
    go_loopg [8, 10, 28] kj3 (fun kq v8 v10 v28 w' => ∃ (x8_2 : Int) (x10_2 : List ByteArray) (x28_2 : Int), v8 = .int .i64 x8_2 ∧ v28 = .int .i64 x28_2 ∧ Aside0 (impl_GetTexts.l0 kq l0 x8_2 x10_2 t601 x28_2 = some (r1, r2, r3)) ∧ Aside0 (kq ≤ kj3) ∧ Aside0 (Kd.R Kd.string 9 w' w.heap.size (fun _ => True) v10 x10_2) ∧ Aside0 (Below w.heap.size w w'))
    case atStart => exact ⟨(t602), (([] : List ByteArray)), (0), e1_, e1_, H', ⟨Nat.le_refl _⟩, ⟨by first | exact Kd.R_nil _ _ _ _ _ | exact Kd.N_nil _ _ _ _ _ | exact Kd.V_nil _ _ _ _ _ | exact Kd.Q_nil _ _ _ _ _ | exact Kd.S_nil _ _ _ _ _⟩, ⟨bw_ HB⟩⟩
    case round =>
     clear H'
     try clear c1
     try clear p2
     try clear c5
     obtain ⟨x8_2, x10_2, x28_2, rfl, rfl, HA, HK2, HO_10, HB⟩ := hrel
     cases gk with
     | zero => exact absurd HA.out (by simp [impl_GetTexts.l0])
     | succ k2 =>
      have H := HA.out
      clear HA
      simp only [impl_GetTexts.l0] at H
      replace H := itd_ H; obtain ⟨c7b0, H⟩ | ⟨c7b0, H⟩ := H
      ·replace H := bi_ H; obtain ⟨⟨t604, t605, t606⟩, A8, H⟩ := H
       dsimp only at H
       replace H := itb_ H; obtain ⟨rfl, H⟩ | ⟨rfl, H⟩ := H
       ·replace H := ip_ H; obtain ⟨c10, H⟩ := H
        have LMc10 := Aside0.mk c10
        clear c10
        obtain ⟨y607, hy607⟩ : ∃ y_ : List ByteArray, y_ = (x10_2 ++ [t604]) := ⟨_, rfl⟩
        replace H : (impl_GetTexts.l0 k2 l0 t605 y607 t601 (wrap64 (x28_2 + 1))) = some (r1, r2, r3) := yh_ hy607 H
        have Ny607 := Aside0.mk hy607
        clear hy607
        have H' := Aside0.mk H
        clear H
        go_wp2_with (first | ((with_reducible refine gq_ 130 33 ?_); refine gc_ 33 Tryz.func130 (impl_GetText.calls k2 _ _ l0 x8_2 t604 t605 true _ (cb_ HR0 HB) HC0.out A8.out) ?_; rintro e w' ⟨rfl, ⟨nd, rfl⟩⟩; refine ⟨_, rfl, ?_⟩) | ((with_reducible refine gate_builtin (b := .append) (xs := #[.tmp 39, .tmp 41]) rfl ?_); at_builtin; refine Kd.R_append Kd.string (w0 := w) w.heap.size rfl (.tmp 39) (.tmp 41) 22 9 (.string ⟨#[]⟩) 16 rfl Tryz.underlying22 info9 rfl (by decide) (by omega) u10 x10_2 t604 [.string t604] (fun _ => True) (fun _ => False) rfl rfl ?aP (fun _ hk => hk.elim) ?aF ?aO ?aB ?aS ?aL ?_; (case aP => exact rfl); (case aB => exact (bw_ HB)); (case aF => exact (fun _ _ => trivial)); (case aO => exact (kr_ HO_10.out)); (case aS => exact (sz_ HB)); (case aL => have := LMc10.out; omega); intro v608 w11 ho hb hg hat; rw [← Ny607.out] at ho; replace HB := Aside0.mk hb; have HO609 := Aside0.mk ho; clear HO_10; clear ho hb hg hat))
        go_roundg k2
        case measure => have := HJ3.out; have := HK2.out; omega
        case rel => exact ⟨(t605), (y607), (wrap64 (x28_2 + 1)), e1_, e1_, H', ⟨by have := HJ3.out; have := HK2.out; omega⟩, ⟨kr_ HO609.out⟩, ⟨bw_ HB⟩⟩
       ·replace H := so3_ H; obtain ⟨rfl, rfl, rfl⟩ := H
        go_wp2_with (first | ((with_reducible refine gq_ 130 33 ?_); refine gc_ 33 Tryz.func130 (impl_GetText.calls k2 _ _ l0 x8_2 t604 t605 false _ (cb_ HR0 HB) HC0.out A8.out) ?_; rintro e w' ⟨rfl, ⟨nd, rfl⟩⟩; refine ⟨_, rfl, ?_⟩))
        go_ret3
        exact ⟨_, e2_, by first | exact Kd.R_nil _ _ _ _ _ | exact Kd.N_nil _ _ _ _ _ | exact Kd.V_nil _ _ _ _ _ | exact Kd.Q_nil _ _ _ _ _ | exact Kd.S_nil _ _ _ _ _, bw_ HB⟩
      ·replace H := so3_ H; obtain ⟨rfl, rfl, rfl⟩ := H
       go_wp2
       go_ret3
       exact ⟨_, e2_, kr_ HO_10.out, bw_ HB⟩
end Go.Proofs.YtnlndmoecljicaaGreat.Q
end
section
namespace Go.Proofs.YtnlndmoecljicaaGreat.Q
open Go.RowKit Go.Proofs.YtnlndmoecljicaaGreat.B Go.Proofs.YtnlndmoecljicaaGreatW.PrintWords Go.Proofs.YtnlndmoecljicaaGreatW.PrintMore
set_option linter.unusedVariables false
set_option linter.unusedSimpArgs false
theorem bytes_nums (l : List Int) (h : InB l) : bytesOf (strOfNums l) = l := by
 unfold bytesOf
 rw [strOfNums_data, List.map_map]
 conv => rhs; rw [← List.map_id l]
 apply List.map_congr_left
 intro x hx
 have := h x hx
 simp only [Function.comp, id]
 rw [UInt8.toNat_ofNat']
 omega
theorem inB_take {l : List Int} (h : InB l) (n : Nat) : InB (l.take n) := fun x hx => h x (List.mem_of_mem_take hx)
theorem inB_drop {l : List Int} (h : InB l) (n : Nat) : InB (l.drop n) := fun x hx => h x (List.mem_of_mem_drop hx)
def TextOf (b : List Int) (at_ : Int) (s : ByteArray) (x : Int) (ok : Bool) : Prop :=
 (ok = false → s = ⟨#[]⟩ ∧ x = 0 ∧ ∀ (a : Nat) (s' : ByteArray) r, at_ = (a : Int) → b.drop a = textB s' ++ r → s'.size ≤ 1000000000 → False) ∧
 (ok = true → ∃ a : Nat, at_ = (a : Int) ∧ s.size ≤ 1000000000 ∧ b.drop a = textB s ++ b.drop (a + (textB s).length) ∧ x = ((a + (textB s).length : Nat) : Int) ∧ a + (textB s).length ≤ b.length)
theorem getText_both (b : List Int) (hb : InB b) (hl : b.length ≤ 1099511627776) (at_ : Int) (h0 : -9223372036854775808 ≤ at_) (h1 : at_ ≤ 9223372036854775807) : ∃ s x ok, Ev (fun q => spec_GetText.f q b at_) (s, x, ok) ∧ Ev (fun q => impl_GetText.f q b at_) (s, x, ok) ∧ TextOf b at_ s x ok := by
 obtain ⟨m, x, ok, e1, e2, hN⟩ := getNum_both b hb hl at_ h0 h1
 unfold spec_GetText.f impl_GetText.f
 cases ok with
 | false =>
  obtain ⟨rfl, rfl, h3⟩ := hN.1 rfl
  refine ⟨⟨#[]⟩, 0, false, Ev.bind e1 (Ev.neg (by simp) (Ev.now _)), Ev.bind e2 (Ev.neg (by simp) (Ev.now _)), fun _ => ⟨rfl, rfl, fun a s' r ha hr hs => ?_⟩, fun h => by cases h⟩
  unfold textB at hr
  rw [List.append_assoc] at hr
  exact h3 a s'.size _ ha hr hs
 | true =>
  obtain ⟨a, N, rfl, rfl, hN1, hd, rfl, hle⟩ := hN.2 rfl
  have hp := num_pos N
  obtain ⟨c, hc⟩ : ∃ c, a + (num N).length = c := ⟨_, rfl⟩
  rw [hc] at e1 e2 hd hle
  clear hN
  by_cases hg : N + c ≤ b.length
  ·have w1 : wrap64 ((b.length : Int) - (c : Int)) = (b.length : Int) - (c : Int) := w64 (by omega) (by omega)
   have w2 : wrap64 ((c : Int) + (N : Int)) = ((c + N : Nat) : Int) := by
    rw [w64 (by omega) (by omega)]
    omega
   have ht : ((c + N : Nat) : Int).toNat = c + N := Int.toNat_natCast _
   have ht2 : (c : Int).toNat = c := Int.toNat_natCast _
   have hrow : (b.take (c + N)).drop c = (b.drop c).take N := by rw [List.drop_take]; congr 1; omega
   have hlen : ((b.drop c).take N).length = N := by rw [List.length_take, List.length_drop]; omega
   have hsz : (strOfNums ((b.drop c).take N)).size = N := by rw [strOfNums_size, hlen]
   have htb : textB (strOfNums ((b.drop c).take N)) = num N ++ (b.drop c).take N := by
    unfold textB
    rw [hsz, bytes_nums _ (inB_take (inB_drop hb c) N)]
   have htl : (textB (strOfNums ((b.drop c).take N))).length = (num N).length + N := by rw [htb, List.length_append, hlen]
   refine ⟨strOfNums ((b.drop c).take N), ((c + N : Nat) : Int), true, ?_, ?_, fun h => (by cases h), fun _ => ⟨a, rfl, by rw [hsz]; exact hN1, ?_, ?_, ?_⟩⟩
   ·refine Ev.bind e1 (Ev.pos rfl ?_)
    simp only [w1, w2, ht, ht2, hrow]
    exact Ev.neg (by omega) (Ev.pos (by omega) (Ev.pos (by omega) (Ev.pos (by omega) (Ev.now _))))
   ·refine Ev.bind e2 (Ev.pos rfl ?_)
    simp only [w1, w2, ht, ht2, hrow]
    exact Ev.neg (by omega) (Ev.pos (by omega) (Ev.pos (by omega) (Ev.pos (by omega) (Ev.now _))))
   ·rw [htl, htb, hd, List.append_assoc]
    congr 1
    rw [show a + ((num N).length + N) = c + N by omega, ← List.drop_drop]
    exact (List.take_append_drop N (b.drop c)).symm
   ·rw [htl]
    congr 1
    omega
   ·rw [htl]
    omega
  ·have w1 : wrap64 ((b.length : Int) - (c : Int)) = (b.length : Int) - (c : Int) := w64 (by omega) (by omega)
   refine ⟨⟨#[]⟩, 0, false, ?_, ?_, fun _ => ⟨rfl, rfl, fun a' s' r ha hr hs => ?_⟩, fun h => by cases h⟩
   ·refine Ev.bind e1 (Ev.pos rfl ?_)
    simp only [w1]
    exact Ev.pos (by omega) (Ev.now _)
   ·refine Ev.bind e2 (Ev.pos rfl ?_)
    simp only [w1]
    exact Ev.pos (by omega) (Ev.now _)
   ·obtain rfl : a = a' := by omega
    unfold textB at hr
    rw [hd, List.append_assoc] at hr
    obtain ⟨k1, k2⟩ := num_inj _ _ _ _ hr
    have := congrArg List.length k2
    rw [List.length_append, bytesOf_length, List.length_drop] at this
    omega
def TextsOf (b : List Int) (at_ : Int) (t : List ByteArray) (x : Int) (ok : Bool) : Prop :=
 (ok = false → t = [] ∧ x = 0 ∧ ∀ (a : Nat) (t' : List ByteArray) r, at_ = (a : Int) → b.drop a = textsB t' ++ r → t'.length ≤ 200 → (∀ s ∈ t', s.size ≤ 1000000000) → False) ∧
 (ok = true → ∃ a : Nat, at_ = (a : Int) ∧ t.length ≤ 200 ∧ (∀ s ∈ t, s.size ≤ 1000000000) ∧ b.drop a = textsB t ++ b.drop (a + (textsB t).length) ∧ x = ((a + (textsB t).length : Nat) : Int) ∧ a + (textsB t).length ≤ b.length)
theorem texts_loop (b : List Int) (hb : InB b) (hl : b.length ≤ 1099511627776) (N : Nat) (hN : N ≤ 200) : ∀ (d i : Nat), i + d = N → ∀ (c : Nat) (acc : List ByteArray), c ≤ b.length → acc.length = i →
  ∃ t x ok, Ev (fun q => spec_GetTexts.l0 q b (N : Int) (c : Int) acc (i : Int)) (t, x, ok) ∧ Ev (fun q => impl_GetTexts.l0 q b (c : Int) acc (N : Int) (i : Int)) (t, x, ok) ∧
   (ok = false → t = [] ∧ x = 0 ∧ ∀ (t' : List ByteArray) r, t'.length = d → b.drop c = manyB t' ++ r → (∀ s ∈ t', s.size ≤ 1000000000) → False) ∧
   (ok = true → ∃ t' : List ByteArray, t = acc ++ t' ∧ t'.length = d ∧ (∀ s ∈ t', s.size ≤ 1000000000) ∧ b.drop c = manyB t' ++ b.drop (c + (manyB t').length) ∧ x = ((c + (manyB t').length : Nat) : Int) ∧ c + (manyB t').length ≤ b.length) := by
 intro d
 induction d with
 | zero =>
  intro i hi c acc hc ha
  refine ⟨acc, (c : Int), true, ?_, ?_, fun h => (by cases h), fun _ => ⟨[], by simp, rfl, by simp, by simp [manyB_nil], by simp [manyB_nil], by simp [manyB_nil]; omega⟩⟩
  ·refine Ev.step (fun q => by simp only [spec_GetTexts.l0]; rfl) ?_
   exact Ev.neg (by omega) (Ev.now _)
  ·refine Ev.step (fun q => by simp only [impl_GetTexts.l0]; rfl) ?_
   exact Ev.neg (by omega) (Ev.now _)
 | succ d ih =>
  intro i hi c acc hc ha
  obtain ⟨s, x, ok, e1, e2, hT⟩ := getText_both b hb hl (c : Int) (by omega) (by omega)
  have hlt : (i : Int) < (N : Int) := by omega
  have nx : wrap64 ((i : Int) + 1) = ((i + 1 : Nat) : Int) := by
   rw [w64 (by omega) (by omega)]
   omega
  cases ok with
  | false =>
   obtain ⟨rfl, rfl, h3⟩ := hT.1 rfl
   refine ⟨[], 0, false, ?_, ?_, fun _ => ⟨rfl, rfl, fun t' r ht hr hs => ?_⟩, fun h => by cases h⟩
   ·refine Ev.step (fun q => by simp only [spec_GetTexts.l0]; rfl) ?_
    exact Ev.pos hlt (Ev.bind e1 (Ev.neg (by simp) (Ev.now _)))
   ·refine Ev.step (fun q => by simp only [impl_GetTexts.l0]; rfl) ?_
    exact Ev.pos hlt (Ev.bind e2 (Ev.neg (by simp) (Ev.now _)))
   ·cases t' with
    | nil => cases ht
    | cons y t' =>
     rw [manyB_cons, List.append_assoc] at hr
     exact h3 c y _ rfl hr (hs y (List.mem_cons_self ..))
  | true =>
   obtain ⟨c', hcc, hs1, hd, rfl, hle⟩ := hT.2 rfl
   obtain rfl : c = c' := by omega
   obtain ⟨t, x2, ok2, f1, f2, f3, f4⟩ := ih (i + 1) (by omega) (c + (textB s).length) (acc ++ [s]) hle (by simp; omega)
   have hal : acc.length < 8796093022208 := by omega
   refine ⟨t, x2, ok2, ?_, ?_, fun ho => ?_, fun ho => ?_⟩
   ·refine Ev.step (fun q => by simp only [spec_GetTexts.l0, nx]; rfl) ?_
    exact Ev.pos hlt (Ev.bind e1 (Ev.pos rfl (Ev.pos hal f1)))
   ·refine Ev.step (fun q => by simp only [impl_GetTexts.l0, nx]; rfl) ?_
    exact Ev.pos hlt (Ev.bind e2 (Ev.pos rfl (Ev.pos hal f2)))
   ·obtain ⟨g1, g2, g3⟩ := f3 ho
    refine ⟨g1, g2, fun t' r ht hr hs => ?_⟩
    cases t' with
    | nil => cases ht
    | cons y t' =>
     rw [hd, manyB_cons, List.append_assoc] at hr
     obtain ⟨_, k2⟩ := textB_inj hr
     exact g3 t' r (by simpa using ht) k2 (fun s' hs' => hs s' (List.mem_cons_of_mem _ hs'))
   ·obtain ⟨t', g1, g2, g3, g4, g5, g6⟩ := f4 ho
    refine ⟨s :: t', by rw [g1]; simp, by simp [g2], fun s' hs' => ?_, ?_, ?_, ?_⟩
    ·rcases List.mem_cons.1 hs' with rfl | hs'
     ·exact hs1
     ·exact g3 s' hs'
    ·rw [manyB_cons, List.length_append, List.append_assoc, ← Nat.add_assoc]
     rw [hd]
     congr 1
    ·rw [manyB_cons, List.length_append, g5]
     congr 1
     omega
    ·rw [manyB_cons, List.length_append]
     omega
theorem getTexts_both (b : List Int) (hb : InB b) (hl : b.length ≤ 1099511627776) (at_ : Int) (h0 : -9223372036854775808 ≤ at_) (h1 : at_ ≤ 9223372036854775807) : ∃ t x ok, Ev (fun q => spec_GetTexts.f q b at_) (t, x, ok) ∧ Ev (fun q => impl_GetTexts.f q b at_) (t, x, ok) ∧ TextsOf b at_ t x ok := by
 obtain ⟨m, x, ok, e1, e2, hN⟩ := getNum_both b hb hl at_ h0 h1
 have sEnd : ∀ m x : Int, Ev (fun q => spec_GetTexts.j0 q b m x true) (([] : List ByteArray), (0 : Int), false) := fun m x => by
  refine Ev.step (fun q => by simp only [spec_GetTexts.j0]; rfl) ?_
  exact Ev.pos trivial (Ev.now _)
 have iEnd : ∀ m x : Int, Ev (fun q => impl_GetTexts.j0 q b m x true) (([] : List ByteArray), (0 : Int), false) := fun m x => by
  refine Ev.step (fun q => by simp only [impl_GetTexts.j0]; rfl) ?_
  exact Ev.pos trivial (Ev.now _)
 unfold spec_GetTexts.f impl_GetTexts.f
 cases ok with
 | false =>
  obtain ⟨rfl, rfl, h3⟩ := hN.1 rfl
  refine ⟨[], 0, false, Ev.bind e1 (Ev.neg (by simp) (sEnd _ _)), Ev.bind e2 (Ev.neg (by simp) (iEnd _ _)), fun _ => ⟨rfl, rfl, fun a t' r ha hr ht hs => ?_⟩, fun h => by cases h⟩
  unfold textsB at hr
  rw [List.append_assoc] at hr
  exact h3 a t'.length _ ha hr (by omega)
 | true =>
  obtain ⟨a, N, rfl, rfl, hN1, hd, rfl, hle⟩ := hN.2 rfl
  by_cases hg : (N : Int) > 200
  ·refine ⟨[], 0, false, ?_, ?_, fun _ => ⟨rfl, rfl, fun a' t' r ha hr ht hs => ?_⟩, fun h => by cases h⟩
   ·refine Ev.bind e1 (Ev.pos rfl ?_)
    simp only [decide_eq_true hg]
    exact sEnd _ _
   ·refine Ev.bind e2 (Ev.pos rfl ?_)
    simp only [decide_eq_true hg]
    exact iEnd _ _
   ·obtain rfl : a = a' := by omega
    unfold textsB at hr
    rw [hd, List.append_assoc] at hr
    obtain ⟨k1, k2⟩ := num_inj _ _ _ _ hr
    omega
  ·obtain ⟨t, x2, ok2, f1, f2, f3, f4⟩ := texts_loop b hb hl N (by omega) N 0 (by omega) (a + (num N).length) [] hle rfl
   refine ⟨t, x2, ok2, ?_, ?_, fun ho => ?_, fun ho => ?_⟩
   ·refine Ev.bind e1 (Ev.pos rfl ?_)
    simp only [decide_eq_false hg]
    refine Ev.step (fun q => by simp only [spec_GetTexts.j0]; rfl) ?_
    exact Ev.neg (by simp) f1
   ·refine Ev.bind e2 (Ev.pos rfl ?_)
    simp only [decide_eq_false hg]
    refine Ev.step (fun q => by simp only [impl_GetTexts.j0]; rfl) ?_
    exact Ev.neg (by simp) f2
   ·obtain ⟨g1, g2, g3⟩ := f3 ho
    refine ⟨g1, g2, fun a' t' r ha hr ht hs => ?_⟩
    obtain rfl : a = a' := by omega
    unfold textsB at hr
    rw [hd, List.append_assoc] at hr
    obtain ⟨k1, k2⟩ := num_inj _ _ _ _ hr
    exact g3 t' r k1.symm k2 hs
   ·obtain ⟨t', g1, g2, g3, g4, g5, g6⟩ := f4 ho
    rw [List.nil_append] at g1
    subst g1
    have hb2 : textsB t = num N ++ manyB t := by
     unfold textsB
     rw [g2]
    refine ⟨a, rfl, by omega, g3, ?_, ?_, ?_⟩
    ·rw [hb2, List.length_append, List.append_assoc, ← Nat.add_assoc]
     rw [hd]
     congr 1
    ·rw [hb2, List.length_append, g5]
     congr 1
     omega
    ·rw [hb2, List.length_append]
     omega
end Go.Proofs.YtnlndmoecljicaaGreat.Q
end
section
-- Written by a program of this session (wip/tools/pp.sh) over the print of the kit.
namespace Go.Proofs.YtnlndmoecljicaaGreat.Q
open Go.RowKit Go.Proofs.YtnlndmoecljicaaGreatW.PrintWords Go.Proofs.YtnlndmoecljicaaGreatW.PrintLast Go.Proofs.YtnlndmoecljicaaGreatW.PrintMore
attribute [local go_sem] max2_int min2_int max_two min_two max_three min_three max_four min_four   -- for this text's walks alone
set_option linter.unusedVariables false
set_option linter.unusedSimpArgs false
def IsS116 (w0 W : World) (g : Nat) (f0 : List Int) (f1 : Int) (f2 : Bool) : Prop := ∃ A0 c0, W.heap[g]? = some (.cells #[.slice A0 f0.length c0, .int .i64 f1, .bool f2] 116 (0, 0)) ∧ w0.heap.size ≤ g ∧ Kd.C (Kd.int .u8) w0 A0 f0.length f0 ∧ f0.length ≤ c0
theorem IsS116.grown {w0 W : World} {g : Nat} {f0 : List Int} {f1 : Int} {f2 : Bool} {W1 : World} {row : Option Nat} (h : IsS116 w0 W g f0 f1 f2) (hw : W.grownBy W1 row) (hne : some g ≠ row) : IsS116 w0 W1 g f0 f1 f2 := by
 obtain ⟨A0, c0, hb, hg, hr0, hq0⟩ := h
 exact ⟨A0, c0, blk_grown hb hw hne, hg, hr0, hq0⟩
theorem IsS116.kept {w0 W : World} {g : Nat} {f0 : List Int} {f1 : Int} {f2 : Bool} {W1 : World} {S : Nat → Prop} (h : IsS116 w0 W g f0 f1 f2) (hk : Kept W W1 S) (hne : ¬ S g) : IsS116 w0 W1 g f0 f1 f2 := by
 obtain ⟨A0, c0, hb, hg, hr0, hq0⟩ := h
 exact ⟨A0, c0, blk_kept hb hk hne, hg, hr0, hq0⟩
theorem IsS116.below {w0 W : World} {g : Nat} {f0 : List Int} {f1 : Int} {f2 : Bool} {W1 : World} (h : IsS116 w0 W g f0 f1 f2) (hw : Below W.heap.size W W1) : IsS116 w0 W1 g f0 f1 f2 := h.grown (grown_of_below hw none) (by simp)
theorem IsS116.alloc {w0 W : World} {g : Nat} {f0 : List Int} {f1 : Int} {f2 : Bool} (h : IsS116 w0 W g f0 f1 f2) (o : Obj) : IsS116 w0 (W.alloc o) g f0 f1 f2 := h.below (below_alloc (Below.refl _ _) o)
theorem IsS116.drewN {w0 W : World} {g : Nat} {f0 : List Int} {f1 : Int} {f2 : Bool} (h : IsS116 w0 W g f0 f1 f2) (m : Nat) : IsS116 w0 (W.drewN m) g f0 f1 f2 := h
theorem IsS116.drew {w0 W : World} {g : Nat} {f0 : List Int} {f1 : Int} {f2 : Bool} (h : IsS116 w0 W g f0 f1 f2) : IsS116 w0 W.drew g f0 f1 f2 := h
theorem IsS116.at_ {w0 W : World} {g : Nat} {f0 : List Int} {f1 : Int} {f2 : Bool} {w' : World} {m : Nat} (hq : W.drewN m = w') (h : IsS116 w0 W g f0 f1 f2) : IsS116 w0 w' g f0 f1 f2 := by subst hq; exact IsS116.drewN h m
theorem IsS116.apart {w0 W : World} {g : Nat} {f0 : List Int} {f1 : Int} {f2 : Bool} {α : Type} {d : Kd α} {e : Nat} {base : Nat} {ok : Nat → Prop} {v : Value} {xs : List α} (h : IsS116 w0 W g f0 f1 f2) (ho : d.R e W base ok v xs) (ht : ∀ q, q ∈ e :: d.E → q ≠ 116) : d.R e W base (fun k => ok k ∧ k ≠ g) v xs := by
 obtain ⟨A0, c0, hb, hg, hr0, hq0⟩ := h
 exact Kd.R_types ho hb ht
theorem IsS116.own_ne {w0 W : World} {g : Nat} {f0 : List Int} {f1 : Int} {f2 : Bool} {α : Type} {d : Kd α} {e : Nat} {base : Nat} {ok : Nat → Prop} {v : Value} {xs : List α} (h : IsS116 w0 W g f0 f1 f2) (ho : d.R e W base ok v xs) (ht : e ≠ 116) : some g ≠ v.ownBlock := by
 obtain ⟨A0, c0, hb, hg, hr0, hq0⟩ := h
 exact Kd.R_ne ho hb ht
theorem IsS116.called {w0 W : World} {g : Nat} {f0 : List Int} {f1 : Int} {f2 : Bool} {P : Program} {f_ : FuncId} {as_ : Array Value} {Q_ : Ending → World → Prop} (h : IsS116 w0 W g f0 f1 f2) (k : Aside0 (IsS116 w0 W g f0 f1 f2) → Calls P f_ as_ W Q_) : Calls P f_ as_ W Q_ := k ⟨h⟩
theorem IsS116.lt {w0 W : World} {g : Nat} {f0 : List Int} {f1 : Int} {f2 : Bool} (h : IsS116 w0 W g f0 f1 f2) : g < W.heap.size := by
 obtain ⟨A0, c0, hb, hg, hr0, hq0⟩ := h
 exact blk_lt hb
theorem IsS116.ge {w0 W : World} {g : Nat} {f0 : List Int} {f1 : Int} {f2 : Bool} (h : IsS116 w0 W g f0 f1 f2) : w0.heap.size ≤ g := by
 obtain ⟨A0, c0, hb, hg, hr0, hq0⟩ := h
 exact hg
theorem IsS116.far {w0 W : World} {g : Nat} {f0 : List Int} {f1 : Int} {f2 : Bool} {p : Addr} (h : IsS116 w0 W g f0 f1 f2) (hne : g ≠ p.block) (u : Value) : IsS116 w0 (W.setCell p u) g f0 f1 f2 := by
 obtain ⟨A0, c0, hb, hg, hr0, hq0⟩ := h
 exact ⟨A0, c0, blk_far hb hne u, hg, hr0, hq0⟩
theorem cellS116_0 {W : World} {g : Nat} {A0 : Option Addr} {c0 : Nat} {f0 : List Int} {f1 : Int} {f2 : Bool} (h : W.heap[g]? = some (.cells #[.slice A0 f0.length c0, .int .i64 f1, .bool f2] 116 (0, 0))) : W.cell? ⟨g, 0, none⟩ = some (.slice A0 f0.length c0) := (blk_cell h 0).trans rfl
theorem cellS116_1 {W : World} {g : Nat} {A0 : Option Addr} {c0 : Nat} {f0 : List Int} {f1 : Int} {f2 : Bool} (h : W.heap[g]? = some (.cells #[.slice A0 f0.length c0, .int .i64 f1, .bool f2] 116 (0, 0))) : W.cell? ⟨g, 1, none⟩ = some (.int .i64 f1) := (blk_cell h 1).trans rfl
theorem IsS116.set_1 {w0 W : World} {g : Nat} {f0 : List Int} {f1 : Int} {f2 : Bool} (h : IsS116 w0 W g f0 f1 f2) (x : Int) : IsS116 w0 (W.setCell ⟨g, 1, none⟩ (.int .i64 x)) g f0 x f2 := by
 obtain ⟨A0, c0, hb, hg, hr0, hq0⟩ := h
 exact ⟨A0, c0, by simpa using blk_set hb 1 (.int .i64 x), hg, hr0, hq0⟩
theorem cellS116_2 {W : World} {g : Nat} {A0 : Option Addr} {c0 : Nat} {f0 : List Int} {f1 : Int} {f2 : Bool} (h : W.heap[g]? = some (.cells #[.slice A0 f0.length c0, .int .i64 f1, .bool f2] 116 (0, 0))) : W.cell? ⟨g, 2, none⟩ = some (.bool f2) := (blk_cell h 2).trans rfl
theorem IsS116.set_2 {w0 W : World} {g : Nat} {f0 : List Int} {f1 : Int} {f2 : Bool} (h : IsS116 w0 W g f0 f1 f2) (x : Bool) : IsS116 w0 (W.setCell ⟨g, 2, none⟩ (.bool x)) g f0 f1 x := by
 obtain ⟨A0, c0, hb, hg, hr0, hq0⟩ := h
 exact ⟨A0, c0, by simpa using blk_set hb 2 (.bool x), hg, hr0, hq0⟩
theorem IsS116.new (w0 W : World) (A0 : Option Addr) (c0 : Nat) (f0 : List Int) (f1 : Int) (f2 : Bool) (hB : Below w0.heap.size w0 W) (hr0 : Kd.C (Kd.int .u8) w0 A0 f0.length f0) (hq0 : f0.length ≤ c0) : IsS116 w0 (W.alloc (.cells #[.slice A0 f0.length c0, .int .i64 f1, .bool f2] 116)) W.heap.size f0 f1 f2 := ⟨A0, c0, by simpa using heap_alloc_new W _, hB.size, hr0, hq0⟩
theorem in116_ {w0 w1 w2 : World} {g : Nat} {f0 : List Int} {f1 : Int} {f2 : Bool} {f02 : List Int} {f12 : Int} {f22 : Bool} (h : Aside0 (IsS116 w0 w1 g f0 f1 f2)) (f : IsS116 w0 w1 g f0 f1 f2 → IsS116 w0 w2 g f02 f12 f22 := by intro h_; repeat (first | (with_reducible first | exact h_ | apply IsS116.alloc | apply IsS116.drewN | apply IsS116.drew | apply IsS116.set_1 | apply IsS116.set_2 | refine IsS116.far ?_ (Aside0.out (by assumption)) _) | exact h_)) : IsS116 w0 w2 g f02 f12 f22 := f h.out
theorem bi116_ {w w1 w2 : World} (h : Aside0 (Below w.heap.size w w1)) (g : Below w.heap.size w w1 → Below w.heap.size w w2 := by intro h_; repeat (first | (with_reducible first | exact h_ | apply below_alloc | apply pw_below_drewN | apply below_drew1 | refine below_set ?_ (Aside0.out (by assumption)) | refine below_set ?_ (IsS116.ge (Aside0.out (by assumption)))) | exact h_)) : Below w.heap.size w w2 := g h.out
def impl_getter_num.f (k : Nat) (s0_0 : List Int) (s0_1 : Int) (s0_2 : Bool) : Option (Int × Int × Bool) := (impl_GetNum.f k s0_0 s0_1).bind fun bt601 => (if s0_2 = true then (some (0, s0_1, true)) else (if bt601.2.2 = true then (some (bt601.1, bt601.2.1, s0_2)) else (some (0, s0_1, true))))
set_option maxHeartbeats 8000000 in
set_option maxRecDepth 100000 in
theorem impl_getter_num.calls (k : Nat) (g : Nat) (s0_0 : List Int) (s0_1 : Int) (s0_2 : Bool) (r1 : Int) (r2 : Int) (r3 : Bool) (w0 w : World) (hI : IsS116 w0 w g s0_0 s0_1 s0_2) (hB : Below w0.heap.size w0 w) (h : impl_getter_num.f k s0_0 s0_1 s0_2 = some (r1, r2, r3)) :
  Calls Tryz.prog 98 #[.pointer (some ⟨g, 0, none⟩)] w fun e w' => e = .returned (.int .i64 r1) ∧ IsS116 w0 w' g s0_0 r2 r3 ∧ Below w0.heap.size w0 w' ∧ KeepBut w w' g none := by
 have HI0 := Aside0.mk hI
 have HK := Aside0.mk (KeepBut.refl w g none)
 have HL := Aside0.mk hB.size
 clear hI
 have HW0 := Aside0.mk hB.size
 have HB := Aside0.mk hB
 clear hB
 have H : ((impl_GetNum.f k s0_0 s0_1).bind fun bt601 => (if s0_2 = true then (some (0, s0_1, true)) else (if bt601.2.2 = true then (some (bt601.1, bt601.2.1, s0_2)) else (some (0, s0_1, true))))) = some (r1, r2, r3) := h
 clear h
 replace H := bi_ H; obtain ⟨⟨t601, t602, t603⟩, A2, H⟩ := H
 dsimp only at H
 replace H := itb_ H; obtain ⟨rfl, H⟩ | ⟨rfl, H⟩ := H
 ·replace H := so3_ H; obtain ⟨rfl, rfl, rfl⟩ := H
  obtain ⟨ASz4_0, cSz4_0, HGz4, hgz4, HSz4_0, HSQz4_0⟩ := HI0.out
  have hcz4_0 := cellS116_0 HGz4
  have hcz4_1 := cellS116_1 HGz4
  have hcz4_2 := cellS116_2 HGz4
  have hfz4_1 := blk_frozen HGz4 1
  have hfz4_2 := blk_frozen HGz4 2
  clear HGz4 hgz4
  go_enter Tryz.func98, Tryz.ntmps98
  go_wp2_with (first | (go_at_call 97; (with_reducible refine (impl_GetNum.calls k _ _ s0_0 s0_1 t601 t602 t603 _ ?side1 ?side2 A2.out).mono ?_); (case side1 => exact Kd.C_below HSz4_0 (bs1_ HB (IsS116.ge HI0.out))); (case side2 => exact HSQz4_0); rintro e w' ⟨rfl, ⟨nd, rfl⟩⟩; (try first | exact ⟨rfl, _, World.drewN_drewN _ _ _⟩ | exact ⟨rfl, _, Eq.trans (World.drewN_drewN _ _ _) (congrArg (World.drewN _) (Nat.add_assoc _ _ _))⟩)))
  repeat (go_quiet (first | (go_at_call 97; (with_reducible refine (impl_GetNum.calls k _ _ s0_0 s0_1 t601 t602 t603 _ ?side1 ?side2 A2.out).mono ?_); (case side1 => exact Kd.C_below HSz4_0 (bs1_ HB (IsS116.ge HI0.out))); (case side2 => exact HSQz4_0); rintro e w' ⟨rfl, ⟨nd, rfl⟩⟩; (try first | exact ⟨rfl, _, World.drewN_drewN _ _ _⟩ | exact ⟨rfl, _, Eq.trans (World.drewN_drewN _ _ _) (congrArg (World.drewN _) (Nat.add_assoc _ _ _))⟩))); try go_wp2_with (first | (go_at_call 97; (with_reducible refine (impl_GetNum.calls k _ _ s0_0 s0_1 t601 t602 t603 _ ?side1 ?side2 A2.out).mono ?_); (case side1 => exact Kd.C_below HSz4_0 (bs1_ HB (IsS116.ge HI0.out))); (case side2 => exact HSQz4_0); rintro e w' ⟨rfl, ⟨nd, rfl⟩⟩; (try first | exact ⟨rfl, _, World.drewN_drewN _ _ _⟩ | exact ⟨rfl, _, Eq.trans (World.drewN_drewN _ _ _) (congrArg (World.drewN _) (Nat.add_assoc _ _ _))⟩))))
  go_ret
  exact ⟨e2_, in116_ HI0, bi116_ HB, kn_ HK⟩
 ·replace H := itb_ H; obtain ⟨rfl, H⟩ | ⟨rfl, H⟩ := H
  ·replace H := so3_ H; obtain ⟨rfl, rfl, rfl⟩ := H
   obtain ⟨ASz6_0, cSz6_0, HGz6, hgz6, HSz6_0, HSQz6_0⟩ := HI0.out
   have hcz6_0 := cellS116_0 HGz6
   have hcz6_1 := cellS116_1 HGz6
   have hcz6_2 := cellS116_2 HGz6
   have hfz6_1 := blk_frozen HGz6 1
   have hfz6_2 := blk_frozen HGz6 2
   clear HGz6 hgz6
   go_enter Tryz.func98, Tryz.ntmps98
   go_wp2_with (first | (go_at_call 97; (with_reducible refine (impl_GetNum.calls k _ _ s0_0 s0_1 t601 t602 true _ ?side1 ?side2 A2.out).mono ?_); (case side1 => exact Kd.C_below HSz6_0 (bs1_ HB (IsS116.ge HI0.out))); (case side2 => exact HSQz6_0); rintro e w' ⟨rfl, ⟨nd, rfl⟩⟩; (try first | exact ⟨rfl, _, World.drewN_drewN _ _ _⟩ | exact ⟨rfl, _, Eq.trans (World.drewN_drewN _ _ _) (congrArg (World.drewN _) (Nat.add_assoc _ _ _))⟩)))
   repeat (go_quiet (first | (go_at_call 97; (with_reducible refine (impl_GetNum.calls k _ _ s0_0 s0_1 t601 t602 true _ ?side1 ?side2 A2.out).mono ?_); (case side1 => exact Kd.C_below HSz6_0 (bs1_ HB (IsS116.ge HI0.out))); (case side2 => exact HSQz6_0); rintro e w' ⟨rfl, ⟨nd, rfl⟩⟩; (try first | exact ⟨rfl, _, World.drewN_drewN _ _ _⟩ | exact ⟨rfl, _, Eq.trans (World.drewN_drewN _ _ _) (congrArg (World.drewN _) (Nat.add_assoc _ _ _))⟩))); try go_wp2_with (first | (go_at_call 97; (with_reducible refine (impl_GetNum.calls k _ _ s0_0 s0_1 t601 t602 true _ ?side1 ?side2 A2.out).mono ?_); (case side1 => exact Kd.C_below HSz6_0 (bs1_ HB (IsS116.ge HI0.out))); (case side2 => exact HSQz6_0); rintro e w' ⟨rfl, ⟨nd, rfl⟩⟩; (try first | exact ⟨rfl, _, World.drewN_drewN _ _ _⟩ | exact ⟨rfl, _, Eq.trans (World.drewN_drewN _ _ _) (congrArg (World.drewN _) (Nat.add_assoc _ _ _))⟩))))
   go_ret
   exact ⟨e2_, in116_ HI0, bi116_ HB, kn_ HK⟩
  ·replace H := so3_ H; obtain ⟨rfl, rfl, rfl⟩ := H
   obtain ⟨ASz7_0, cSz7_0, HGz7, hgz7, HSz7_0, HSQz7_0⟩ := HI0.out
   have hcz7_0 := cellS116_0 HGz7
   have hcz7_1 := cellS116_1 HGz7
   have hcz7_2 := cellS116_2 HGz7
   have hfz7_1 := blk_frozen HGz7 1
   have hfz7_2 := blk_frozen HGz7 2
   clear HGz7 hgz7
   go_enter Tryz.func98, Tryz.ntmps98
   go_wp2_with (first | (go_at_call 97; (with_reducible refine (impl_GetNum.calls k _ _ s0_0 s0_1 t601 t602 false _ ?side1 ?side2 A2.out).mono ?_); (case side1 => exact Kd.C_below HSz7_0 (bs1_ HB (IsS116.ge HI0.out))); (case side2 => exact HSQz7_0); rintro e w' ⟨rfl, ⟨nd, rfl⟩⟩; (try first | exact ⟨rfl, _, World.drewN_drewN _ _ _⟩ | exact ⟨rfl, _, Eq.trans (World.drewN_drewN _ _ _) (congrArg (World.drewN _) (Nat.add_assoc _ _ _))⟩)))
   repeat (go_quiet (first | (go_at_call 97; (with_reducible refine (impl_GetNum.calls k _ _ s0_0 s0_1 t601 t602 false _ ?side1 ?side2 A2.out).mono ?_); (case side1 => exact Kd.C_below HSz7_0 (bs1_ HB (IsS116.ge HI0.out))); (case side2 => exact HSQz7_0); rintro e w' ⟨rfl, ⟨nd, rfl⟩⟩; (try first | exact ⟨rfl, _, World.drewN_drewN _ _ _⟩ | exact ⟨rfl, _, Eq.trans (World.drewN_drewN _ _ _) (congrArg (World.drewN _) (Nat.add_assoc _ _ _))⟩))); try go_wp2_with (first | (go_at_call 97; (with_reducible refine (impl_GetNum.calls k _ _ s0_0 s0_1 t601 t602 false _ ?side1 ?side2 A2.out).mono ?_); (case side1 => exact Kd.C_below HSz7_0 (bs1_ HB (IsS116.ge HI0.out))); (case side2 => exact HSQz7_0); rintro e w' ⟨rfl, ⟨nd, rfl⟩⟩; (try first | exact ⟨rfl, _, World.drewN_drewN _ _ _⟩ | exact ⟨rfl, _, Eq.trans (World.drewN_drewN _ _ _) (congrArg (World.drewN _) (Nat.add_assoc _ _ _))⟩))))
   go_ret
   exact ⟨e2_, in116_ HI0, bi116_ HB, kn_ HK⟩
end Go.Proofs.YtnlndmoecljicaaGreat.Q
end
