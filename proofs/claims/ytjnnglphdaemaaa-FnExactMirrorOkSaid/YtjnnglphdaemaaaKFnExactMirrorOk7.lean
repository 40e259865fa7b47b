-- Joined and shortened by a program of this session (wip/tools/shakecopy.py): the words of the print, texts of pp.sh and of mine.
import Derived.Test.YtjnnglphdaemaaaKFnExactMirrorOk6
import Derived.Test.YtjnnglphdaemaaaRows
import Derived.WalkKit
import Derived.ProofKit
import Derived.OpenShut
import Derived.ShutString
import Derived.ChangeOld
import Derived.Below
import Derived.SizedLaws
import Derived.Carry
section
-- Written by a program of this session (wip/tools/pp.sh) over the print of the kit.
namespace Go.Proofs.Ytjnnglphdaemaaa.Q
open Go.RowKit Go.Proofs.YtjnnglphdaemaaaW.PrintWords Go.Proofs.YtjnnglphdaemaaaW.PrintLast Go.Proofs.YtjnnglphdaemaaaW.PrintMore
attribute [local go_sem] max2_int min2_int max_two min_two max_three min_three max_four min_four   -- for this text's walks alone
set_option linter.unusedVariables false
set_option linter.unusedSimpArgs false
attribute [local go_sem high] eqA28
mutual
def spec_l12Replay.l0 : Nat → List Int → Int → List ByteArray → Int → ByteArray → Option (List ByteArray × Int × ByteArray × Bool)
 | 0, _, _, _, _, _ => none
 | k + 1, x0, x5, x608000, x608001, x608002 => if x5 < (x0.length : Int) then ((spec_GetCommit.f k x0 x5).bind fun bt608 => (if bt608.2.2.2.2 = true then (spec_l12Replay.j1 k x0 bt608.2.2.1 bt608.2.2.2.1 (decide ((wrap64 ((x608000.length : Int) + (bt608.2.2.1.length : Int))) > 200)) x608000 x608001 x608002 bt608.1 bt608.2.1) else (spec_l12Replay.j1 k x0 bt608.2.2.1 bt608.2.2.2.1 true x608000 x608001 x608002 bt608.1 bt608.2.1))) else (some (x608000, x608001, x608002, true))
def spec_l12Replay.j1 : Nat → List Int → List ByteArray → Int → Bool → List ByteArray → Int → ByteArray → Int → ByteArray → Option (List ByteArray × Int × ByteArray × Bool)
 | 0, _, _, _, _, _, _, _, _, _ => none
 | k + 1, x0, x7, x8, x33, x608000, x608001, x608002, x616000, x616001 => if x33 = true then (some (x608000, x608001, x608002, false)) else (if x608000.length + x7.length < 8796093022208 then ((some (x608000 ++ x7 : List ByteArray)).bind fun y616 => ((spec_HeadOf.f k y616).bind fun bt619 => (if (!(x616000 == bt619.1) || (!(x616001.toList == bt619.2.toList))) = true then (some (y616, x616000, x616001, false)) else (spec_l12Replay.l0 k x0 x8 y616 x616000 x616001)))) else (none))
end
def spec_l12Replay.f (k : Nat) (l0 : List Int) : Option (List ByteArray × Int × ByteArray × Bool) := (spec_LogNew.f k).bind fun bt602 => (spec_l12Replay.l0 k l0 0 bt602.1 bt602.2.1 bt602.2.2)
theorem spec_l12Replay.mono_l : ∀ k, (∀ y0 y1 y2 y3 y4, LeO (spec_l12Replay.l0 k y0 y1 y2 y3 y4) (spec_l12Replay.l0 (k + 1) y0 y1 y2 y3 y4)) ∧ (∀ y0 y1 y2 y3 y4 y5 y6 y7 y8, LeO (spec_l12Replay.j1 k y0 y1 y2 y3 y4 y5 y6 y7 y8) (spec_l12Replay.j1 (k + 1) y0 y1 y2 y3 y4 y5 y6 y7 y8))
 | 0 => ⟨fun _ _ _ _ _ r h => by simp [spec_l12Replay.l0] at h, fun _ _ _ _ _ _ _ _ _ r h => by simp [spec_l12Replay.j1] at h⟩
 | k + 1 => by
  obtain ⟨ih0, ih1⟩ := spec_l12Replay.mono_l k
  refine ⟨?_, ?_⟩
  ·intro y0 y1 y2 y3 y4
   unfold spec_l12Replay.l0
   repeat' (with_reducible first | exact LeO.refl _ | exact LeO.none _ | apply ih0 | apply ih1 | apply spec_GetCommit.mono | apply spec_HeadOf.mono | apply spec_LogNew.mono | apply LeO.ite | refine LeO.bind ?_ fun _ => ?_)
  ·intro y0 y1 y2 y3 y4 y5 y6 y7 y8
   unfold spec_l12Replay.j1
   repeat' (with_reducible first | exact LeO.refl _ | exact LeO.none _ | apply ih0 | apply ih1 | apply spec_GetCommit.mono | apply spec_HeadOf.mono | apply spec_LogNew.mono | apply LeO.ite | refine LeO.bind ?_ fun _ => ?_)
theorem spec_l12Replay.mono : ∀ a0 k, LeO (spec_l12Replay.f k a0) (spec_l12Replay.f (k + 1) a0) := by
 intro a0 k
 obtain ⟨ih0, ih1⟩ := spec_l12Replay.mono_l k
 unfold spec_l12Replay.f
 repeat' (with_reducible first | exact LeO.refl _ | exact LeO.none _ | apply ih0 | apply ih1 | apply spec_GetCommit.mono | apply spec_HeadOf.mono | apply spec_LogNew.mono | apply LeO.ite | refine LeO.bind ?_ fun _ => ?_)
set_option maxHeartbeats 8000000 in
set_option maxRecDepth 100000 in
theorem spec_l12Replay.calls (k : Nat) (A0 : Option Addr) (c0 : Nat) (l0 : List Int) (r1 : List ByteArray) (r2 : Int) (r3 : ByteArray) (r4 : Bool) (w : World) (hr0 : Kd.C (Kd.int .u8) w A0 l0.length l0) (hc0 : l0.length ≤ c0) (h : spec_l12Replay.f k l0 = some (r1, r2, r3, r4)) :
  Calls Try.prog 116 #[.slice A0 l0.length c0] w fun e w' => ∃ v0_ : Value, e = .returned (.tuple #[.agg #[v0_, .int .i64 r2, .string r3], .bool r4]) ∧ Kd.R Kd.string 9 w' w.heap.size (fun _ => True) v0_ r1 ∧ Below w.heap.size w w' := by
 have hu31 := Try.underlying31
 have hu28 := Try.underlying28
 have HR0 := Aside0.mk hr0
 have HC0 := Aside0.mk hc0
 clear hr0 hc0
 have HB := Aside0.mk (Below.refl w.heap.size w)
 have H : ((spec_LogNew.f k).bind fun bt602 => (spec_l12Replay.l0 k l0 0 bt602.1 bt602.2.1 bt602.2.2)) = some (r1, r2, r3, r4) := h
 clear h
 replace H := bi_ H; obtain ⟨⟨t602, t605, t606⟩, A2, H⟩ := H
 dsimp only at H
 have H' := Aside0.mk H
 clear H
 go_enter Try.func116, Try.ntmps116
 go_wp2_with (first | ((with_reducible refine gd_ 2 ?_); (try (refine gate_guard (by rfl) ?_; dsimp only)); refine bx_ 2 31 #[.slice none 0 0, .int .i64 0, .string (⟨#[]⟩ : ByteArray)] ?_; intro gb601 hg w3 hbox hb; have BK601 := Aside0.mk hbox; have GW601 := gg_ hg HB; have GE601 := GW601; replace HB := ss_ HB hb; clear hb hbox hg) | ((with_reducible refine gq_ 118 10 ?_); refine gc_ 10 Try.func118 (spec_LogNew.calls k  t602 t605 t606 _ A2.out) ?_; rintro e w4 ⟨v603, rfl, ho0, hb⟩; refine ⟨_, rfl, ?_⟩; have HO604 := Aside0.mk (Kd.R_lower ho0 (sz_ HB)); replace BK601 := kl_ BK601 hb; replace HB := ss_ HB hb; clear hb ho0) | ((with_reducible refine gd_ 4 ?_); (try (refine gate_guard (by rfl) ?_; dsimp only)); refine bx_ 4 31 #[.slice none 0 0, .int .i64 0, .string (⟨#[]⟩ : ByteArray)] ?_; intro gb607 hg w5 hbox hb; replace HO604 := rb_ HO604 hb; have BK607 := Aside0.mk hbox; have GW607 := gg_ hg HB; have GE607 := GW607; replace HB := ss_ HB hb; have NB601_607 := Aside0.mk ((by rw [hg]; exact Nat.ne_of_lt (blk_lt (kb_ BK601.out)) : gb601 ≠ gb607)); have NB607_601 := Aside0.mk ((by rw [hg]; exact Nat.ne_of_gt (blk_lt (kb_ BK601.out)) : gb607 ≠ gb601)); replace BK601 := kl_ BK601 hb; clear hb hbox hg; obtain ⟨Ao6, co6, eo6⟩ := Kd.R_slice HO604.out; subst eo6; have hnb7 := NB607_601.out; have hnc7 := NB601_607.out; have hz8 := cz3_ BK607))
 go_loopg [5] k (fun kq v5 w' => ∃ (x5_1 : Int) (x602001_1 : Int) (x602002_1 : ByteArray) (x608000_1 : List ByteArray) (x608001_1 : Int) (x608002_1 : ByteArray) (u608000 : Value), v5 = .int .i64 x5_1 ∧ Aside0 (spec_l12Replay.l0 kq l0 x5_1 x608000_1 x608001_1 x608002_1 = some (r1, r2, r3, r4)) ∧ Aside0 (kq ≤ k) ∧ Aside0 (Kd.R Kd.string 9 w' w.heap.size (fun _ => True) u608000 x608000_1) ∧ Aside0 (w'.heap[gb601]? = some (.cells #[(.slice none 0 0), .int .i64 x602001_1, .string x602002_1] 31 (0, 0))) ∧ Aside0 (w'.heap[gb607]? = some (.cells #[u608000, .int .i64 x608001_1, .string x608002_1] 31 (0, 0))) ∧ Aside0 (Below w.heap.size w w'))
 case atStart => exact ⟨(0), (0), ((⟨#[]⟩ : ByteArray)), (t602), (t605), (t606), (.slice Ao6 t602.length co6), e1_, H', ⟨Nat.le_refl _⟩, ⟨by (with_reducible repeat (first | apply Kd.R_alloc | apply Kd.R_drewN | apply Kd.R_drew)); exact Kd.R_mono (Kd.R_far (p := ⟨gb607, 2, none⟩) (Kd.R_far (p := ⟨gb607, 1, none⟩) (Kd.R_far (p := ⟨gb607, 0, none⟩) (Kd.R_types HO604.out BK607.out (by decide)) (fun _ hk => hk.2) (.slice Ao6 t602.length co6)) (fun _ hk => hk.2) (.int .i64 t605)) (fun _ hk => hk.2) (.string t606)) (fun _ hk => trivial)⟩, ⟨kq_ BK601⟩, ⟨kq_ BK607⟩, ⟨bw_ HB⟩⟩
 case round =>
  clear H'
  try clear hz8
  obtain ⟨x5_1, x602001_1, x602002_1, x608000_1, x608001_1, x608002_1, u608000, rfl, HA, HK1, HO_608000, BK601, BK607, HB⟩ := hrel
  cases gk with
  | zero => exact absurd HA.out (by simp [spec_l12Replay.l0])
  | succ k1 =>
   have H := HA.out
   clear HA
   simp only [spec_l12Replay.l0] at H
   replace H := itd_ H; obtain ⟨c9b0, H⟩ | ⟨c9b0, H⟩ := H
   ·replace H := bi_ H; obtain ⟨⟨t608, t609, t610, t613, t614⟩, A10, H⟩ := H
    dsimp only at H
    have HC11 := Aside0.mk H
    clear H
    go_upto_region 5 with (first | ((with_reducible refine gq_ 96 18 ?_); refine gc_ 18 Try.func96 (spec_GetCommit.calls k1 _ _ l0 x5_1 t608 t609 t610 t613 t614 _ (cb_ HR0 HB) HC0.out A10.out) ?_; rintro e w12 ⟨v611, rfl, ho0, hb⟩; refine ⟨_, rfl, ?_⟩; have HO612 := Aside0.mk (Kd.R_lower (Kd.R_new' ho0 (lt_ HO_608000)) (sz_ HB)); replace HO_608000 := re_ HO_608000 ho0 hb; replace BK601 := kl_ BK601 hb; replace BK607 := kl_ BK607 hb; replace HB := ss_ HB hb; clear hb ho0) | ((with_reducible refine gd_ 6 ?_); (try (refine gate_guard (by rfl) ?_; dsimp only)); refine bx_ 6 28 #[.int .i64 0, .string (⟨#[]⟩ : ByteArray)] ?_; intro gb615 hg w13 hbox hb; replace HO_608000 := rb_ HO_608000 hb; replace HO612 := rb_ HO612 hb; have BK615 := Aside0.mk hbox; have GW615 := gg_ hg HB; have GE615 := GW615; replace HB := ss_ HB hb; have NB601_615 := nla_ hg BK601; have NB615_601 := nga_ hg BK601; replace BK601 := kl_ BK601 hb; have NB607_615 := nla_ hg BK607; have NB615_607 := nga_ hg BK607; replace BK607 := kl_ BK607 hb; clear hb hbox hg; have hnb14 := NB615_601.out; have hnc14 := NB601_615.out; have hnb15 := NB615_607.out; have hnc15 := NB607_615.out; have hz16 := cz2_ BK615))
    (try simp only [Act.put, List.setIfInBounds_toArray, List.set_cons_zero, List.set_cons_succ])
    go_cut [33] (fun v33 wc => ∃ (kq : Nat) (x33_10 : Bool), v33 = .bool x33_10 ∧ Aside0 (spec_l12Replay.j1 kq l0 t610 t613 x33_10 x608000_1 x608001_1 x608002_1 t608 t609 = some (r1, r2, r3, r4)) ∧ Aside0 (kq ≤ k1) ∧ Aside0 (Kd.R Kd.string 9 wc w.heap.size (fun k_ => some k_ ≠ (u608000 : Value).ownBlock) v611 t610) ∧ Aside0 (Kd.R Kd.string 9 wc w.heap.size (fun k_ => some k_ ≠ (v611 : Value).ownBlock) u608000 x608000_1) ∧ Aside0 (wc.heap[gb601]? = some (.cells #[(.slice none 0 0), .int .i64 x602001_1, .string x602002_1] 31 (0, 0))) ∧ Aside0 (wc.heap[gb607]? = some (.cells #[u608000, .int .i64 x608001_1, .string x608002_1] 31 (0, 0))) ∧ Aside0 (wc.heap[gb615]? = some (.cells #[.int .i64 t608, .string t609] 28 (0, 0))) ∧ Aside0 (Below w.heap.size w wc))
    case first =>
     have H := HC11.out
     clear HC11
     replace H := itb_ H; obtain ⟨rfl, H⟩ | ⟨rfl, H⟩ := H
     ·have H' := Aside0.mk H
      clear H
      have hnb18 := NB607_601.out
      have hnc18 := NB601_607.out
      have hnb19 := NB607_615.out
      have hnc19 := NB615_607.out
      have hz20 := cz3_ BK607
      obtain ⟨Ao21, co21, eo21⟩ := Kd.R_slice HO_608000.out
      subst eo21
      obtain ⟨Ao22, co22, eo22⟩ := Kd.R_slice HO612.out
      subst eo22
      go_wp2
      go_meet
      case rel => exact ⟨_, (decide ((wrap64 ((x608000_1.length : Int) + (t610.length : Int))) > 200)), e1_, H', ⟨by have := HK1.out; first | omega | exact Nat.le_refl _⟩, ⟨by (with_reducible repeat (first | apply Kd.R_alloc | apply Kd.R_drewN | apply Kd.R_drew)); exact Kd.R_mono (Kd.R_far (p := ⟨gb615, 1, none⟩) (Kd.R_far (p := ⟨gb615, 0, none⟩) (Kd.R_types HO612.out BK615.out (by decide)) (fun _ hk => hk.2) (.int .i64 t608)) (fun _ hk => hk.2) (.string t609)) (fun _ hk => hk.1.2)⟩, ⟨by (with_reducible repeat (first | apply Kd.R_alloc | apply Kd.R_drewN | apply Kd.R_drew)); exact Kd.R_mono (Kd.R_far (p := ⟨gb615, 1, none⟩) (Kd.R_far (p := ⟨gb615, 0, none⟩) (Kd.R_types HO_608000.out BK615.out (by decide)) (fun _ hk => hk.2) (.int .i64 t608)) (fun _ hk => hk.2) (.string t609)) (fun _ hk => hk.1.2)⟩, ⟨kq_ BK601⟩, ⟨kq_ BK607⟩, ⟨kq_ BK615⟩, ⟨bw_ HB⟩⟩
     ·have H' := Aside0.mk H
      clear H
      go_wp2
      go_meet
      case rel => exact ⟨_, (true), e1_, H', ⟨by have := HK1.out; first | omega | exact Nat.le_refl _⟩, ⟨by (with_reducible repeat (first | apply Kd.R_alloc | apply Kd.R_drewN | apply Kd.R_drew)); exact Kd.R_mono (Kd.R_far (p := ⟨gb615, 1, none⟩) (Kd.R_far (p := ⟨gb615, 0, none⟩) (Kd.R_types HO612.out BK615.out (by decide)) (fun _ hk => hk.2) (.int .i64 t608)) (fun _ hk => hk.2) (.string t609)) (fun _ hk => hk.1.2)⟩, ⟨by (with_reducible repeat (first | apply Kd.R_alloc | apply Kd.R_drewN | apply Kd.R_drew)); exact Kd.R_mono (Kd.R_far (p := ⟨gb615, 1, none⟩) (Kd.R_far (p := ⟨gb615, 0, none⟩) (Kd.R_types HO_608000.out BK615.out (by decide)) (fun _ hk => hk.2) (.int .i64 t608)) (fun _ hk => hk.2) (.string t609)) (fun _ hk => hk.1.2)⟩, ⟨kq_ BK601⟩, ⟨kq_ BK607⟩, ⟨kq_ BK615⟩, ⟨bw_ HB⟩⟩
    case rest =>
     clear HC11
     try clear c1
     try clear p2
     try clear c7
     try clear c9b0
     try clear hz16
     try clear hz8
     obtain ⟨kq, x33_10, rfl, HA, HJ10, HO_7, HO_608000, BK601, BK607, BK615, HB⟩ := hcut
     cases kq with
     | zero => exact absurd HA.out (by simp [spec_l12Replay.j1])
     | succ kj10 =>
      have H := HA.out
      clear HA
      simp only [spec_l12Replay.j1] at H
      replace H := itb_ H; obtain ⟨rfl, H⟩ | ⟨rfl, H⟩ := H
      ·replace H := so4_ H; obtain ⟨rfl, rfl, rfl, rfl⟩ := H
       have hnb24 := NB607_601.out
       have hnc24 := NB601_607.out
       have hnb25 := NB607_615.out
       have hnc25 := NB615_607.out
       have hz26 := cz3_ BK607
       obtain ⟨Ao27, co27, eo27⟩ := Kd.R_slice HO_608000.out
       subst eo27
       have hnb28 := NB601_615.out
       have hnc28 := NB615_601.out
       have hz29 := cz3_ BK601
       go_wp2
       refine bodyPost_ret (results_ct rfl _ _ gb601 31 #[.slice Ao27 x608000_1.length co27, .int .i64 x608001_1, .string x608002_1] (0, 0) _ rfl (by exact kq_ BK601) Try.underlying31 rfl (by kernel_rfl)) rfl ?_
       exact ⟨_, e2_, by (with_reducible repeat (first | apply Kd.R_alloc | apply Kd.R_drewN | apply Kd.R_drew)); exact Kd.R_mono (Kd.R_far (p := ⟨gb601, 2, none⟩) (Kd.R_far (p := ⟨gb601, 1, none⟩) (Kd.R_far (p := ⟨gb601, 0, none⟩) (Kd.R_types HO_608000.out BK601.out (by decide)) (fun _ hk => hk.2) (.slice Ao27 x608000_1.length co27)) (fun _ hk => hk.2) (.int .i64 x608001_1)) (fun _ hk => hk.2) (.string x608002_1)) (fun _ hk => trivial), bw_ HB⟩
      ·replace H := ip_ H; obtain ⟨c30, H⟩ := H
       have LMc30 := Aside0.mk c30
       clear c30
       obtain ⟨y616, Ny616, H⟩ := sb_ (x608000_1 ++ t610) H
       replace H := bi_ H; obtain ⟨⟨t619, t620⟩, A31, H⟩ := H
       dsimp only at H
       replace H := it_ H; obtain ⟨c32, H⟩ | ⟨c32, H⟩ := H
       ·have c32b0 : (!(t608 == t619) || (!(t609.toList == t620.toList))) = true := c32
        clear c32
        replace H := so4_ H; obtain ⟨rfl, rfl, rfl, rfl⟩ := H
        have hnb33 := NB607_601.out
        have hnc33 := NB601_607.out
        have hnb34 := NB607_615.out
        have hnc34 := NB615_607.out
        have hz35 := cz3_ BK607
        obtain ⟨Ao37, co37, eo37⟩ := Kd.R_slice HO_7.out
        subst eo37
        try go_wp2_with (first | ((with_reducible refine gate_builtin (b := .append) (xs := #[.tmp 36, .tmp 37]) rfl ?_); (try (refine gate_guard (by rfl) ?_; dsimp only)); at_builtin; refine Kd.R_append_rows Kd.string (w0 := w) w.heap.size rfl (.tmp 36) (.tmp 37) 24 9 (.string ⟨#[]⟩) 16 rfl Try.underlying24 info9 rfl (by decide) (by omega) u608000 x608000_1 t610 _ _ _ (fun k_ => some k_ ≠ (.slice Ao37 t610.length co37 : Value).ownBlock) (fun _ => False) rfl rfl ?aO ?aR (fun _ _ h => h) (fun _ h => h.elim) ?aF ?aB ?aS ?aL ?_; (case aR => repeat (first | exact (Kd.R_reads' HO_7.out).2.2 | (with_reducible refine Kd.C_alloc ?_ _) | (with_reducible refine Kd.C_drewN ?_ _) | (with_reducible refine Kd.C_drew ?_))); (case aB => exact (bw_ HB)); (case aF => exact (fun k_ hk => Kd.fresh' (lt_ HO_7) k_ hk)); (case aO => exact (kr_ HO_608000.out)); (case aS => exact (sz_ HB)); (case aL => have := LMc30.out; omega); intro v617 w36 ho hb hg hat; rw [← Ny616.out] at ho; replace HO_7 := Aside0.mk (Kd.R_after (ok := (fun _ => True)) (kr_ (Kd.R_mono HO_7.out (fun _ hk => ⟨trivial, hk⟩))) hg hat); replace BK601 := kg_ BK601 HO_608000 hg; replace BK607 := kg_ BK607 HO_608000 hg; replace BK615 := kg_ BK615 HO_608000 hg; replace HB := Aside0.mk hb; have HO618 := Aside0.mk ho; clear HO_608000; clear ho hb hg hat; obtain ⟨Ao38, co38, eo38⟩ := Kd.R_slice HO618.out; subst eo38; have hz39 := cz3_ BK607; have hnb40 := NB615_601.out; have hnc40 := NB601_615.out; have hz41 := cz2_ BK615))
        have n0_ : Aside0 (Kd.R Kd.string 9 (((w36.setCell ⟨gb607, 0, none⟩ (.slice Ao38 y616.length co38)).setCell ⟨gb607, 1, none⟩ (.int .i64 t608)).setCell ⟨gb607, 2, none⟩ (.string t609)) w.heap.size (fun k_ => some k_ ≠ (.slice Ao38 y616.length co38 : Value).ownBlock) (.slice Ao37 t610.length co37) t610) := ⟨by (with_reducible repeat (first | apply Kd.R_alloc | apply Kd.R_drewN | apply Kd.R_drew)); exact Kd.R_mono (Kd.R_far (p := ⟨gb607, 2, none⟩) (Kd.R_far (p := ⟨gb607, 1, none⟩) (Kd.R_far (p := ⟨gb607, 0, none⟩) (Kd.R_types HO_7.out BK607.out (by decide)) (fun _ hk => hk.2) (.slice Ao38 y616.length co38)) (fun _ hk => hk.2) (.int .i64 t608)) (fun _ hk => hk.2) (.string t609)) (fun _ hk => hk.1.2)⟩
        have n1_ : Aside0 (Kd.R Kd.string 9 (((w36.setCell ⟨gb607, 0, none⟩ (.slice Ao38 y616.length co38)).setCell ⟨gb607, 1, none⟩ (.int .i64 t608)).setCell ⟨gb607, 2, none⟩ (.string t609)) w.heap.size (fun k_ => some k_ ≠ (.slice Ao37 t610.length co37 : Value).ownBlock) (.slice Ao38 y616.length co38) y616) := ⟨by (with_reducible repeat (first | apply Kd.R_alloc | apply Kd.R_drewN | apply Kd.R_drew)); exact Kd.R_mono (Kd.R_far (p := ⟨gb607, 2, none⟩) (Kd.R_far (p := ⟨gb607, 1, none⟩) (Kd.R_far (p := ⟨gb607, 0, none⟩) (Kd.R_types HO618.out BK607.out (by decide)) (fun _ hk => hk.2) (.slice Ao38 y616.length co38)) (fun _ hk => hk.2) (.int .i64 t608)) (fun _ hk => hk.2) (.string t609)) (fun _ hk => hk.1)⟩
        have n2_ : Aside0 ((((w36.setCell ⟨gb607, 0, none⟩ (.slice Ao38 y616.length co38)).setCell ⟨gb607, 1, none⟩ (.int .i64 t608)).setCell ⟨gb607, 2, none⟩ (.string t609)).heap[gb601]? = some (.cells #[.slice none 0 0, .int .i64 x602001_1, .string x602002_1] 31 (0, 0))) := ⟨kq_ BK601⟩
        have n3_ : Aside0 ((((w36.setCell ⟨gb607, 0, none⟩ (.slice Ao38 y616.length co38)).setCell ⟨gb607, 1, none⟩ (.int .i64 t608)).setCell ⟨gb607, 2, none⟩ (.string t609)).heap[gb607]? = some (.cells #[.slice Ao38 y616.length co38, .int .i64 t608, .string t609] 31 (0, 0))) := ⟨kq_ BK607⟩
        have n4_ : Aside0 ((((w36.setCell ⟨gb607, 0, none⟩ (.slice Ao38 y616.length co38)).setCell ⟨gb607, 1, none⟩ (.int .i64 t608)).setCell ⟨gb607, 2, none⟩ (.string t609)).heap[gb615]? = some (.cells #[.int .i64 t608, .string t609] 28 (0, 0))) := ⟨kq_ BK615⟩
        have n5_ : Aside0 (Below w.heap.size w (((w36.setCell ⟨gb607, 0, none⟩ (.slice Ao38 y616.length co38)).setCell ⟨gb607, 1, none⟩ (.int .i64 t608)).setCell ⟨gb607, 2, none⟩ (.string t609))) := ⟨bw_ HB⟩
        generalize (((w36.setCell ⟨gb607, 0, none⟩ (.slice Ao38 y616.length co38)).setCell ⟨gb607, 1, none⟩ (.int .i64 t608)).setCell ⟨gb607, 2, none⟩ (.string t609)) = w42 at n0_ n1_ n2_ n3_ n4_ n5_ ⊢
        have HO_7 := n0_
        have HO618 := n1_
        have BK601 := n2_
        have BK607 := n3_
        have BK615 := n4_
        have HB := n5_
        clear n0_ n1_ n2_ n3_ n4_ n5_
        replace HO_7 := Aside0.mk (Kd.R_drew HO_7.out)
        replace HO618 := Aside0.mk (Kd.R_drew HO618.out)
        replace BK601 := Aside0.mk (blk_drew BK601.out)
        replace BK607 := Aside0.mk (blk_drew BK607.out)
        replace BK615 := Aside0.mk (blk_drew BK615.out)
        replace HB := Aside0.mk (below_drew1 HB.out)
        refine start_ (n := 5) (S := fun w' => w'.cell? ⟨gb615, 0, none⟩ = some (.int .i64 t608) ∧ w'.cell? ⟨gb615, 1, none⟩ = some (.string t609) ∧ w'.cell? ⟨gb607, 0, none⟩ = some (.slice Ao38 y616.length co38) ∧ w'.cell? ⟨gb607, 1, none⟩ = some (.int .i64 t608) ∧ w'.cell? ⟨gb607, 2, none⟩ = some (.string t609)) (ds := []) (lz_ 5 0) (by kernel_rfl) rfl rfl ⟨bc0_ BK615.out, bc1_ BK615.out, bc0_ BK607.out, bc1_ BK607.out, bc2_ BK607.out⟩ (fun hHeld => ?_)
        generalize w42.drew = w43 at HO_7 HO618 BK601 BK607 BK615 HB hHeld ⊢
        refine pk_ 1 44 2 ?_
        refine tk_ 0 43 3 ?_
        refine tk_ 2 45 7 ?_
        refine one_ (i := 3) (N := some 46) (lz_ 5 15) rfl rfl (by kernel_rfl) (by decide) (fun K hK => ?_)
        refine ge_ Try.func72 #[.slice Ao38 y616.length co38] ?_
        with_reducible refine (spec_HeadOf.calls kj10 _ _ y616 t619 t620 _ ?side1 ?side2 A31.out).mono ?_
        (case side1 => exact ch_ HO618)
        (case side2 => exact (cl_ HO618))
        rintro e w44 ⟨rfl, hb⟩
        refine ⟨_, rfl, ?_⟩
        replace HO_7 := rb_ HO_7 hb
        replace HO618 := rb_ HO618 hb
        replace BK601 := kl_ BK601 hb
        replace BK607 := kl_ BK607 hb
        replace BK615 := kl_ BK615 hb
        replace HB := ss_ HB hb
        clear hb
        refine hK.out _ _ ⟨bc0_ BK615.out, bc1_ BK615.out, bc0_ BK607.out, bc1_ BK607.out, bc2_ BK607.out⟩ (fun hHeld => ?_)
        clear hK K
        refine no_ 46 ?_
        refine pk_ 4 47 31 ?_
        refine done_ (by kernel_rfl) ?_
        have hz45 := cz3_ BK607
        have hz46 := cz3_ BK601
        try go_wp2
        refine bodyPost_ret (results_ct rfl _ _ gb601 31 #[.slice Ao38 y616.length co38, .int .i64 t608, .string t609] (0, 0) _ rfl (by exact kq_ BK601) Try.underlying31 rfl (by kernel_rfl)) rfl ?_
        exact ⟨_, e2_, by (with_reducible repeat (first | apply Kd.R_alloc | apply Kd.R_drewN | apply Kd.R_drew)); exact Kd.R_mono (Kd.R_far (p := ⟨gb601, 2, none⟩) (Kd.R_far (p := ⟨gb601, 1, none⟩) (Kd.R_far (p := ⟨gb601, 0, none⟩) (Kd.R_types HO618.out BK601.out (by decide)) (fun _ hk => hk.2) (.slice Ao38 y616.length co38)) (fun _ hk => hk.2) (.int .i64 t608)) (fun _ hk => hk.2) (.string t609)) (fun _ hk => trivial), bw_ HB⟩
       ·have c32b0 : (!(t608 == t619) || (!(t609.toList == t620.toList))) = false := by simpa using c32
        clear c32
        have H' := Aside0.mk H
        clear H
        have hnb47 := NB607_601.out
        have hnc47 := NB601_607.out
        have hnb48 := NB607_615.out
        have hnc48 := NB615_607.out
        have hz49 := cz3_ BK607
        obtain ⟨Ao51, co51, eo51⟩ := Kd.R_slice HO_7.out
        subst eo51
        try go_wp2_with (first | ((with_reducible refine gate_builtin (b := .append) (xs := #[.tmp 36, .tmp 37]) rfl ?_); (try (refine gate_guard (by rfl) ?_; dsimp only)); at_builtin; refine Kd.R_append_rows Kd.string (w0 := w) w.heap.size rfl (.tmp 36) (.tmp 37) 24 9 (.string ⟨#[]⟩) 16 rfl Try.underlying24 info9 rfl (by decide) (by omega) u608000 x608000_1 t610 _ _ _ (fun k_ => some k_ ≠ (.slice Ao51 t610.length co51 : Value).ownBlock) (fun _ => False) rfl rfl ?aO ?aR (fun _ _ h => h) (fun _ h => h.elim) ?aF ?aB ?aS ?aL ?_; (case aR => repeat (first | exact (Kd.R_reads' HO_7.out).2.2 | (with_reducible refine Kd.C_alloc ?_ _) | (with_reducible refine Kd.C_drewN ?_ _) | (with_reducible refine Kd.C_drew ?_))); (case aB => exact (bw_ HB)); (case aF => exact (fun k_ hk => Kd.fresh' (lt_ HO_7) k_ hk)); (case aO => exact (kr_ HO_608000.out)); (case aS => exact (sz_ HB)); (case aL => have := LMc30.out; omega); intro v617 w50 ho hb hg hat; rw [← Ny616.out] at ho; replace HO_7 := Aside0.mk (Kd.R_after (ok := (fun _ => True)) (kr_ (Kd.R_mono HO_7.out (fun _ hk => ⟨trivial, hk⟩))) hg hat); replace BK601 := kg_ BK601 HO_608000 hg; replace BK607 := kg_ BK607 HO_608000 hg; replace BK615 := kg_ BK615 HO_608000 hg; replace HB := Aside0.mk hb; have HO618 := Aside0.mk ho; clear HO_608000; clear ho hb hg hat; obtain ⟨Ao52, co52, eo52⟩ := Kd.R_slice HO618.out; subst eo52; have hz53 := cz3_ BK607; have hnb54 := NB615_601.out; have hnc54 := NB601_615.out; have hz55 := cz2_ BK615))
        have n0_ : Aside0 (Kd.R Kd.string 9 (((w50.setCell ⟨gb607, 0, none⟩ (.slice Ao52 y616.length co52)).setCell ⟨gb607, 1, none⟩ (.int .i64 t608)).setCell ⟨gb607, 2, none⟩ (.string t609)) w.heap.size (fun k_ => some k_ ≠ (.slice Ao52 y616.length co52 : Value).ownBlock) (.slice Ao51 t610.length co51) t610) := ⟨by (with_reducible repeat (first | apply Kd.R_alloc | apply Kd.R_drewN | apply Kd.R_drew)); exact Kd.R_mono (Kd.R_far (p := ⟨gb607, 2, none⟩) (Kd.R_far (p := ⟨gb607, 1, none⟩) (Kd.R_far (p := ⟨gb607, 0, none⟩) (Kd.R_types HO_7.out BK607.out (by decide)) (fun _ hk => hk.2) (.slice Ao52 y616.length co52)) (fun _ hk => hk.2) (.int .i64 t608)) (fun _ hk => hk.2) (.string t609)) (fun _ hk => hk.1.2)⟩
        have n1_ : Aside0 (Kd.R Kd.string 9 (((w50.setCell ⟨gb607, 0, none⟩ (.slice Ao52 y616.length co52)).setCell ⟨gb607, 1, none⟩ (.int .i64 t608)).setCell ⟨gb607, 2, none⟩ (.string t609)) w.heap.size (fun k_ => some k_ ≠ (.slice Ao51 t610.length co51 : Value).ownBlock) (.slice Ao52 y616.length co52) y616) := ⟨by (with_reducible repeat (first | apply Kd.R_alloc | apply Kd.R_drewN | apply Kd.R_drew)); exact Kd.R_mono (Kd.R_far (p := ⟨gb607, 2, none⟩) (Kd.R_far (p := ⟨gb607, 1, none⟩) (Kd.R_far (p := ⟨gb607, 0, none⟩) (Kd.R_types HO618.out BK607.out (by decide)) (fun _ hk => hk.2) (.slice Ao52 y616.length co52)) (fun _ hk => hk.2) (.int .i64 t608)) (fun _ hk => hk.2) (.string t609)) (fun _ hk => hk.1)⟩
        have n2_ : Aside0 ((((w50.setCell ⟨gb607, 0, none⟩ (.slice Ao52 y616.length co52)).setCell ⟨gb607, 1, none⟩ (.int .i64 t608)).setCell ⟨gb607, 2, none⟩ (.string t609)).heap[gb601]? = some (.cells #[.slice none 0 0, .int .i64 x602001_1, .string x602002_1] 31 (0, 0))) := ⟨kq_ BK601⟩
        have n3_ : Aside0 ((((w50.setCell ⟨gb607, 0, none⟩ (.slice Ao52 y616.length co52)).setCell ⟨gb607, 1, none⟩ (.int .i64 t608)).setCell ⟨gb607, 2, none⟩ (.string t609)).heap[gb607]? = some (.cells #[.slice Ao52 y616.length co52, .int .i64 t608, .string t609] 31 (0, 0))) := ⟨kq_ BK607⟩
        have n4_ : Aside0 ((((w50.setCell ⟨gb607, 0, none⟩ (.slice Ao52 y616.length co52)).setCell ⟨gb607, 1, none⟩ (.int .i64 t608)).setCell ⟨gb607, 2, none⟩ (.string t609)).heap[gb615]? = some (.cells #[.int .i64 t608, .string t609] 28 (0, 0))) := ⟨kq_ BK615⟩
        have n5_ : Aside0 (Below w.heap.size w (((w50.setCell ⟨gb607, 0, none⟩ (.slice Ao52 y616.length co52)).setCell ⟨gb607, 1, none⟩ (.int .i64 t608)).setCell ⟨gb607, 2, none⟩ (.string t609))) := ⟨bw_ HB⟩
        generalize (((w50.setCell ⟨gb607, 0, none⟩ (.slice Ao52 y616.length co52)).setCell ⟨gb607, 1, none⟩ (.int .i64 t608)).setCell ⟨gb607, 2, none⟩ (.string t609)) = w56 at n0_ n1_ n2_ n3_ n4_ n5_ ⊢
        have HO_7 := n0_
        have HO618 := n1_
        have BK601 := n2_
        have BK607 := n3_
        have BK615 := n4_
        have HB := n5_
        clear n0_ n1_ n2_ n3_ n4_ n5_
        replace HO_7 := Aside0.mk (Kd.R_drew HO_7.out)
        replace HO618 := Aside0.mk (Kd.R_drew HO618.out)
        replace BK601 := Aside0.mk (blk_drew BK601.out)
        replace BK607 := Aside0.mk (blk_drew BK607.out)
        replace BK615 := Aside0.mk (blk_drew BK615.out)
        replace HB := Aside0.mk (below_drew1 HB.out)
        refine start_ (n := 5) (S := fun w' => w'.cell? ⟨gb615, 0, none⟩ = some (.int .i64 t608) ∧ w'.cell? ⟨gb615, 1, none⟩ = some (.string t609) ∧ w'.cell? ⟨gb607, 0, none⟩ = some (.slice Ao52 y616.length co52) ∧ w'.cell? ⟨gb607, 1, none⟩ = some (.int .i64 t608) ∧ w'.cell? ⟨gb607, 2, none⟩ = some (.string t609)) (ds := []) (lz_ 5 0) (by kernel_rfl) rfl rfl ⟨bc0_ BK615.out, bc1_ BK615.out, bc0_ BK607.out, bc1_ BK607.out, bc2_ BK607.out⟩ (fun hHeld => ?_)
        generalize w56.drew = w57 at HO_7 HO618 BK601 BK607 BK615 HB hHeld ⊢
        refine pk_ 1 44 2 ?_
        refine tk_ 0 43 3 ?_
        refine tk_ 2 45 7 ?_
        refine one_ (i := 3) (N := some 46) (lz_ 5 15) rfl rfl (by kernel_rfl) (by decide) (fun K hK => ?_)
        refine ge_ Try.func72 #[.slice Ao52 y616.length co52] ?_
        with_reducible refine (spec_HeadOf.calls kj10 _ _ y616 t619 t620 _ ?side1 ?side2 A31.out).mono ?_
        (case side1 => exact ch_ HO618)
        (case side2 => exact (cl_ HO618))
        rintro e w58 ⟨rfl, hb⟩
        refine ⟨_, rfl, ?_⟩
        replace HO_7 := rb_ HO_7 hb
        replace HO618 := rb_ HO618 hb
        replace BK601 := kl_ BK601 hb
        replace BK607 := kl_ BK607 hb
        replace BK615 := kl_ BK615 hb
        replace HB := ss_ HB hb
        clear hb
        refine hK.out _ _ ⟨bc0_ BK615.out, bc1_ BK615.out, bc0_ BK607.out, bc1_ BK607.out, bc2_ BK607.out⟩ (fun hHeld => ?_)
        clear hK K
        refine no_ 46 ?_
        refine pk_ 4 47 31 ?_
        refine done_ (by kernel_rfl) ?_
        try go_wp2
        go_roundg kj10
        case measure => have := HK1.out; have := HJ10.out; omega
        case rel => exact ⟨(t613), (x602001_1), (x602002_1), (y616), (t608), (t609), (.slice Ao52 y616.length co52), e1_, H', ⟨by have := HK1.out; have := HJ10.out; omega⟩, ⟨by (with_reducible repeat (first | apply Kd.R_alloc | apply Kd.R_drewN | apply Kd.R_drew)); exact Kd.R_mono HO618.out (fun _ hk => trivial)⟩, ⟨kb_ BK601.out⟩, ⟨kb_ BK607.out⟩, ⟨bw_ HB⟩⟩
   ·replace H := so4_ H; obtain ⟨rfl, rfl, rfl, rfl⟩ := H
    have hnb59 := NB607_601.out
    have hnc59 := NB601_607.out
    have hz60 := cz3_ BK607
    obtain ⟨Ao61, co61, eo61⟩ := Kd.R_slice HO_608000.out
    subst eo61
    have hz62 := cz3_ BK601
    go_wp2
    refine bodyPost_ret (results_ct rfl _ _ gb601 31 #[.slice Ao61 x608000_1.length co61, .int .i64 x608001_1, .string x608002_1] (0, 0) _ rfl (by exact kq_ BK601) Try.underlying31 rfl (by kernel_rfl)) rfl ?_
    exact ⟨_, e2_, by (with_reducible repeat (first | apply Kd.R_alloc | apply Kd.R_drewN | apply Kd.R_drew)); exact Kd.R_mono (Kd.R_far (p := ⟨gb601, 2, none⟩) (Kd.R_far (p := ⟨gb601, 1, none⟩) (Kd.R_far (p := ⟨gb601, 0, none⟩) (Kd.R_types HO_608000.out BK601.out (by decide)) (fun _ hk => hk.2) (.slice Ao61 x608000_1.length co61)) (fun _ hk => hk.2) (.int .i64 x608001_1)) (fun _ hk => hk.2) (.string x608002_1)) (fun _ hk => trivial), bw_ HB⟩
end Go.Proofs.Ytjnnglphdaemaaa.Q
end

section
-- Written by a program of this session (wip/tools/pp.sh) over the print of the kit.
namespace Go.Proofs.Ytjnnglphdaemaaa.Q
open Go.RowKit Go.Proofs.YtjnnglphdaemaaaW.PrintWords Go.Proofs.YtjnnglphdaemaaaW.PrintLast Go.Proofs.YtjnnglphdaemaaaW.PrintMore
attribute [local go_sem] max2_int min2_int max_two min_two max_three min_three max_four min_four   -- for this text's walks alone
set_option linter.unusedVariables false
set_option linter.unusedSimpArgs false
def spec_StoreOk.j0 : Nat → Bool → List ByteArray → Int → ByteArray → List Int → Int → Option (Bool)
 | 0, _, _, _, _, _, _ => none
 | k + 1, x23, x602000, x602001, x602002, x602003, x602004 => if x23 = true then (some false) else ((spec_l12Replay.f k x602003).bind fun bt604 => (if bt604.2.2.2 = true then ((spec_l8Same.f k bt604.1 x602000).bind fun t611 => (some t611)) else (some false)))
def spec_StoreOk.f (k : Nat) (l0_0 : List ByteArray) (a0_1 : Int) (a0_2 : ByteArray) (l0_3 : List Int) (a0_4 : Int) : Option (Bool) := (spec_LogOk.f k l0_0 a0_1 a0_2).bind fun t602 => (if t602 = true then (if (l0_3.length : Int) > 60000 then (spec_StoreOk.j0 k true l0_0 a0_1 a0_2 l0_3 a0_4) else ((spec_l1In.f a0_4 0 (l0_3.length : Int)).bind fun t603 => (spec_StoreOk.j0 k (!t603) l0_0 a0_1 a0_2 l0_3 a0_4))) else (spec_StoreOk.j0 k true l0_0 a0_1 a0_2 l0_3 a0_4))
theorem spec_StoreOk.mono_l : ∀ k, (∀ y0 y1 y2 y3 y4 y5, LeO (spec_StoreOk.j0 k y0 y1 y2 y3 y4 y5) (spec_StoreOk.j0 (k + 1) y0 y1 y2 y3 y4 y5))
 | 0 => fun _ _ _ _ _ _ r h => by simp [spec_StoreOk.j0] at h
 | k + 1 => by
  have ih0 := spec_StoreOk.mono_l k
  ·intro y0 y1 y2 y3 y4 y5
   unfold spec_StoreOk.j0
   repeat' (with_reducible first | exact LeO.refl _ | exact LeO.none _ | apply ih0 | apply spec_LogOk.mono | apply spec_l12Replay.mono | apply spec_l8Same.mono | apply LeO.ite | refine LeO.bind ?_ fun _ => ?_)
theorem spec_StoreOk.mono : ∀ a0 a1 a2 a3 a4 k, LeO (spec_StoreOk.f k a0 a1 a2 a3 a4) (spec_StoreOk.f (k + 1) a0 a1 a2 a3 a4) := by
 intro a0 a1 a2 a3 a4 k
 have ih0 := spec_StoreOk.mono_l k
 unfold spec_StoreOk.f
 repeat' (with_reducible first | exact LeO.refl _ | exact LeO.none _ | apply ih0 | apply spec_LogOk.mono | apply spec_l12Replay.mono | apply spec_l8Same.mono | apply LeO.ite | refine LeO.bind ?_ fun _ => ?_)
set_option maxHeartbeats 8000000 in
set_option maxRecDepth 100000 in
theorem spec_StoreOk.calls (k : Nat) (A0_0 : Option Addr) (c0_0 : Nat) (l0_0 : List ByteArray) (a0_1 : Int) (a0_2 : ByteArray) (A0_3 : Option Addr) (c0_3 : Nat) (l0_3 : List Int) (a0_4 : Int) (r : Bool) (w : World) (hr0_0 : Kd.C Kd.string w A0_0 l0_0.length l0_0) (hc0_0 : l0_0.length ≤ c0_0) (hr0_3 : Kd.C (Kd.int .u8) w A0_3 l0_3.length l0_3) (hc0_3 : l0_3.length ≤ c0_3) (h : spec_StoreOk.f k l0_0 a0_1 a0_2 l0_3 a0_4 = some r) :
  Calls Try.prog 88 #[.agg #[.slice A0_0 l0_0.length c0_0, .int .i64 a0_1, .string a0_2, .slice A0_3 l0_3.length c0_3, .int .i64 a0_4]] w fun e w' => e = .returned (.bool r) ∧ Below w.heap.size w w' := by
 have hu37 := Try.underlying37
 have hu31 := Try.underlying31
 have HR0_0 := Aside0.mk hr0_0
 have HC0_0 := Aside0.mk hc0_0
 clear hr0_0 hc0_0
 have HR0_3 := Aside0.mk hr0_3
 have HC0_3 := Aside0.mk hc0_3
 clear hr0_3 hc0_3
 have HB := Aside0.mk (Below.refl w.heap.size w)
 have H : ((spec_LogOk.f k l0_0 a0_1 a0_2).bind fun t602 => (if t602 = true then (if (l0_3.length : Int) > 60000 then (spec_StoreOk.j0 k true l0_0 a0_1 a0_2 l0_3 a0_4) else ((spec_l1In.f a0_4 0 (l0_3.length : Int)).bind fun t603 => (spec_StoreOk.j0 k (!t603) l0_0 a0_1 a0_2 l0_3 a0_4))) else (spec_StoreOk.j0 k true l0_0 a0_1 a0_2 l0_3 a0_4))) = some r := h
 clear h
 have HC2 := Aside0.mk H
 clear H
 go_enter Try.func88, Try.ntmps88
 go_upto_region 1 with (first | ((with_reducible refine gd_ 1 ?_); (try (refine gate_guard (by rfl) ?_; dsimp only)); refine bx_ 1 37 #[.slice A0_0 l0_0.length c0_0, .int .i64 a0_1, .string a0_2, .slice A0_3 l0_3.length c0_3, .int .i64 a0_4] ?_; intro gb601 hg w3 hbox hb; have BK601 := Aside0.mk hbox; have GW601 := gg_ hg HB; have GE601 := GW601; replace HB := ss_ HB hb; clear hb hbox hg))
 (try simp only [Act.put, List.setIfInBounds_toArray, List.set_cons_zero, List.set_cons_succ])
 go_cut [23] (fun v23 wc => ∃ (kq : Nat) (x23_1 : Bool), v23 = .bool x23_1 ∧ Aside0 (spec_StoreOk.j0 kq x23_1 l0_0 a0_1 a0_2 l0_3 a0_4 = some r) ∧ Aside0 (kq ≤ k) ∧ Aside0 (wc.heap[gb601]? = some (.cells #[(.slice A0_0 l0_0.length c0_0), .int .i64 a0_1, .string a0_2, (.slice A0_3 l0_3.length c0_3), .int .i64 a0_4] 37 (0, 0))) ∧ Aside0 (Below w.heap.size w wc))
 case first =>
  have H := HC2.out
  clear HC2
  replace H := bi_ H; obtain ⟨t602, A4, H⟩ := H
  replace H := itb_ H; obtain ⟨rfl, H⟩ | ⟨rfl, H⟩ := H
  ·replace H := it_ H; obtain ⟨c6, H⟩ | ⟨c6, H⟩ := H
   ·have c6b0 : decide (60000 < (l0_3.length : Int)) = true := decide_eq_true c6
    have c6b1 : decide (60000 < l0_3.length) = true := decide_eq_true (by omega)
    clear c6
    (first | rw [c6b0] | (simp only [i64_w, i32_w]; rw [c6b0]) | rw [c6b1] | skip)
    have H' := Aside0.mk H
    clear H
    have hz7 := cz5_ BK601
    go_wp2_with (first | ((with_reducible refine gq_ 77 7 ?_); refine gc_ 7 Try.func77 (spec_LogOk.calls k _ _ l0_0 a0_1 a0_2 true _ (cb_ HR0_0 HB) HC0_0.out A4.out) ?_; rintro e w8 ⟨rfl, hb⟩; refine ⟨_, rfl, ?_⟩; replace BK601 := kl_ BK601 hb; replace HB := ss_ HB hb; clear hb; have hz9 := cz5_ BK601))
    go_meet
    case rel => exact ⟨_, (true), e1_, H', ⟨le_⟩, ⟨kb_ BK601.out⟩, ⟨bw_ HB⟩⟩
   ·have c6b0 : decide (60000 < (l0_3.length : Int)) = false := decide_eq_false c6
    have c6b1 : decide (60000 < l0_3.length) = false := decide_eq_false (by omega)
    clear c6
    (first | rw [c6b0] | (simp only [i64_w, i32_w]; rw [c6b0]) | rw [c6b1] | skip)
    replace H := bi_ H; obtain ⟨t603, A10, H⟩ := H
    have H' := Aside0.mk H
    clear H
    have hz11 := cz5_ BK601
    go_wp2_with (first | ((with_reducible refine gq_ 77 7 ?_); refine gc_ 7 Try.func77 (spec_LogOk.calls k _ _ l0_0 a0_1 a0_2 true _ (cb_ HR0_0 HB) HC0_0.out A4.out) ?_; rintro e w12 ⟨rfl, hb⟩; refine ⟨_, rfl, ?_⟩; replace BK601 := kl_ BK601 hb; replace HB := ss_ HB hb; clear hb; have hz13 := cz5_ BK601) | (go_at_call 90; (with_reducible refine (spec_l1In.calls a0_4 0 (l0_3.length : Int) t603 _ A10.out).mono ?_); rintro e w' ⟨rfl, ⟨nd, rfl⟩⟩))
    go_meet
    case rel => exact ⟨_, (!t603), e1_, H', ⟨le_⟩, ⟨kb_ BK601.out⟩, ⟨bw_ HB⟩⟩
  ·have H' := Aside0.mk H
   clear H
   have hz14 := cz5_ BK601
   go_wp2_with (first | ((with_reducible refine gq_ 77 7 ?_); refine gc_ 7 Try.func77 (spec_LogOk.calls k _ _ l0_0 a0_1 a0_2 false _ (cb_ HR0_0 HB) HC0_0.out A4.out) ?_; rintro e w15 ⟨rfl, hb⟩; refine ⟨_, rfl, ?_⟩; replace BK601 := kl_ BK601 hb; replace HB := ss_ HB hb; clear hb))
   go_meet
   case rel => exact ⟨_, (true), e1_, H', ⟨le_⟩, ⟨kb_ BK601.out⟩, ⟨bw_ HB⟩⟩
 case rest =>
  clear HC2
  obtain ⟨kq, x23_1, rfl, HA, HJ1, BK601, HB⟩ := hcut
  cases kq with
  | zero => exact absurd HA.out (by simp [spec_StoreOk.j0])
  | succ kj1 =>
   have H := HA.out
   clear HA
   simp only [spec_StoreOk.j0] at H
   replace H := itb_ H; obtain ⟨rfl, H⟩ | ⟨rfl, H⟩ := H
   ·obtain rfl := Option.some.inj H
    go_wp2
    go_ret
    exact ⟨e2_, bw_ HB⟩
   ·replace H := bi_ H; obtain ⟨⟨t604, t607, t608, t609⟩, A17, H⟩ := H
    dsimp only at H
    replace H := itb_ H; obtain ⟨rfl, H⟩ | ⟨rfl, H⟩ := H
    ·replace H := bi_ H; obtain ⟨t611, A19, H⟩ := H
     obtain rfl := Option.some.inj H
     have hz20 := cz5_ BK601
     go_wp2_with (first | ((with_reducible refine gq_ 116 27 ?_); refine gc_ 27 Try.func116 (spec_l12Replay.calls kj1 _ _ l0_3 t604 t607 t608 true _ (cb_ HR0_3 HB) HC0_3.out A17.out) ?_; rintro e w21 ⟨v605, rfl, ho0, hb⟩; refine ⟨_, rfl, ?_⟩; have HO606 := Aside0.mk (Kd.R_lower ho0 (sz_ HB)); replace BK601 := kl_ BK601 hb; replace HB := ss_ HB hb; clear hb ho0) | ((with_reducible refine gd_ 3 ?_); (try (refine gate_guard (by rfl) ?_; dsimp only)); refine bx_ 3 31 #[.slice none 0 0, .int .i64 0, .string (⟨#[]⟩ : ByteArray)] ?_; intro gb610 hg w22 hbox hb; replace HO606 := rb_ HO606 hb; have BK610 := Aside0.mk hbox; have GW610 := gg_ hg HB; have GE610 := GW610; replace HB := ss_ HB hb; have NB601_610 := nla_ hg BK601; have NB610_601 := nga_ hg BK601; replace BK601 := kl_ BK601 hb; clear hb hbox hg; obtain ⟨Ao23, co23, eo23⟩ := Kd.R_slice HO606.out; subst eo23; have hnb24 := NB610_601.out; have hnc24 := NB601_610.out; have hz25 := cz3_ BK610; have hz26 := cz5_ BK601) | (go_at_call 117; (with_reducible refine (spec_l8Same.calls kj1 _ _ t604 _ _ l0_0 t611 _ ?side1 ?side2 ?side3 ?side4 A19.out).mono ?_); (case side1 => exact chf_ HO606 BK610); (case side2 => exact (cl_ HO606)); (case side3 => exact Kd.C_below HR0_0.out (bw_ HB)); (case side4 => exact HC0_0.out); rintro e w' ⟨rfl, ⟨nd, rfl⟩⟩))
     go_ret
     exact ⟨e2_, bw_ HB⟩
    ·obtain rfl := Option.some.inj H
     have hz27 := cz5_ BK601
     go_wp2_with (first | ((with_reducible refine gq_ 116 27 ?_); refine gc_ 27 Try.func116 (spec_l12Replay.calls kj1 _ _ l0_3 t604 t607 t608 false _ (cb_ HR0_3 HB) HC0_3.out A17.out) ?_; rintro e w28 ⟨v605, rfl, ho0, hb⟩; refine ⟨_, rfl, ?_⟩; have HO606 := Aside0.mk (Kd.R_lower ho0 (sz_ HB)); replace BK601 := kl_ BK601 hb; replace HB := ss_ HB hb; clear hb ho0) | ((with_reducible refine gd_ 3 ?_); (try (refine gate_guard (by rfl) ?_; dsimp only)); refine bx_ 3 31 #[.slice none 0 0, .int .i64 0, .string (⟨#[]⟩ : ByteArray)] ?_; intro gb610 hg w29 hbox hb; replace HO606 := rb_ HO606 hb; have BK610 := Aside0.mk hbox; have GW610 := gg_ hg HB; have GE610 := GW610; replace HB := ss_ HB hb; have NB601_610 := nla_ hg BK601; have NB610_601 := nga_ hg BK601; replace BK601 := kl_ BK601 hb; clear hb hbox hg; obtain ⟨Ao30, co30, eo30⟩ := Kd.R_slice HO606.out; subst eo30; have hnb31 := NB610_601.out; have hnc31 := NB601_610.out; have hz32 := cz3_ BK610))
     go_ret
     exact ⟨e2_, bw_ HB⟩
end Go.Proofs.Ytjnnglphdaemaaa.Q
end

section
/- Whether a store's bytes make its log: the program's loop and the reference's answer alike. Plain. -/
namespace Go.Proofs.Ytjnnglphdaemaaa.Q
open Go.RowKit Go.Proofs.Ytjnnglphdaemaaa.B Go.Proofs.YtjnnglphdaemaaaW.PrintWords Go.Proofs.YtjnnglphdaemaaaW.PrintMore
set_option linter.unusedVariables false
set_option linter.unusedSimpArgs false

theorem log_new : Ev (fun k => spec_LogNew.f k) (([] : List ByteArray), (headOf []).1, (headOf []).2) := by
  unfold spec_LogNew.f
  exact Ev.bind (spec_HeadOf_ev [] (by simp)) (Ev.now _)
theorem ev_uniq {α : Type} {g : Nat → Option α} {r q : α} (h : Ev g r) (k : Ev g q) : r = q := by
  obtain ⟨K, h⟩ := h
  obtain ⟨M, k⟩ := k
  exact Option.some.inj ((h (max K M) (Nat.le_max_left _ _)).symm.trans (k (max K M) (Nat.le_max_right _ _)))
/-- One commit read at a place, by both. -/
theorem getCommit_step (b : List Int) (hb : InB b) (hl : b.length ≤ 1048576) (a : Nat) (ha : a ≤ b.length) :
    ∃ n s t nx ok, Ev (fun q => spec_GetCommit.f q b (a : Int)) (n, s, t, nx, ok) ∧ Ev (fun q => impl_GetCommit.f q b (a : Int)) (n, s, t, nx, ok) ∧ t.length ≤ 200 ∧ (∀ x ∈ t, x.size ≤ bigB) ∧
      (ok = true → ∃ c : Nat, nx = (c : Int) ∧ a < c ∧ c ≤ b.length) ∧ (ok = false → t = []) := by
  obtain ⟨n, s, t, nx, ok, e1, ht, c1, c2⟩ := getCommitI b hb (by omega) (a : Int) (by omega) (by omega)
  obtain ⟨n', s', t', nx', ok', e2, e3, _⟩ := getCommit_both b hb (by omega) (a : Int) (by omega) (by omega)
  have h := ev_uniq e3 e1
  simp only [Prod.mk.injEq] at h
  obtain ⟨rfl, rfl, rfl, rfl, rfl⟩ := h
  refine ⟨_, _, _, _, _, e2, e1, ht, ?_, ?_, ?_⟩
  · cases hok : ok' with
    | true =>
      obtain ⟨a', N, h1, rfl, _, _, hd, _, hle⟩ := c1 hok
      intro x hx
      have h2 := commitB_length N s' t'
      have h3 := bodyB_ge N s' t'
      have h4 := total_mem hx
      unfold bigB
      omega
    | false =>
      obtain ⟨_, _, rfl, _⟩ := c2 hok
      intro x hx
      cases hx
  · intro hok
    obtain ⟨a', N, h1, rfl, _, _, hd, h2, hle⟩ := c1 hok
    have h3 := commitB_length N s' t'
    exact ⟨_, h2, by omega, hle⟩
  · intro hok
    exact (c2 hok).2.2.1
theorem sizes_app {l t : List ByteArray} (h : ∀ x ∈ l, x.size ≤ bigB) (k : ∀ x ∈ t, x.size ≤ bigB) : ∀ x ∈ l ++ t, x.size ≤ bigB := fun x hx => (List.mem_append.1 hx).elim (h x) (k x)
/-- Where there are too many texts already, the program says no in the end. -/
theorem impl_many (b : List Int) (hb : InB b) (hl : b.length ≤ 1048576) (L : List ByteArray) (hL : L.length ≤ 200) (N : Int) (S : ByteArray) (U : Int) : ∀ (m a : Nat) (T : List ByteArray), b.length - a ≤ m → a ≤ b.length → 200 < T.length → T.length + 200 * (b.length - a) ≤ 1000000000 → (∀ x ∈ T, x.size ≤ bigB) →
    Ev (fun k => impl_StoreOk.l0 k T (a : Int) L N S b U) false := by
  intro m
  induction m with
  | zero =>
    intro a T h1 h2 h3 h4 h5
    refine Ev.step (fun k => by simp only [impl_StoreOk.l0]; rfl) ?_
    refine Ev.neg (by omega) (Ev.bind (impl_same_ev T L (by omega)) ?_)
    rw [decide_eq_false (fun e => by rw [e] at h3; omega)]
    exact Ev.now _
  | succ m ih =>
    intro a T h1 h2 h3 h4 h5
    refine Ev.step (fun k => by simp only [impl_StoreOk.l0]; rfl) ?_
    by_cases ha : (a : Int) < (b.length : Int)
    · obtain ⟨n, s, t, nx, ok, e1, e2, ht, hs, c1, c2⟩ := getCommit_step b hb hl a h2
      refine Ev.pos ha (Ev.bind e2 ?_)
      simp only
      refine Ev.pos (by omega) ?_
      simp only [Option.bind_some]
      cases ok with
      | false => exact Ev.neg (by simp) (Ev.now _)
      | true =>
        obtain ⟨c, rfl, h6, h7⟩ := c1 rfl
        refine Ev.pos rfl (Ev.bind (impl_HeadOf_ev (T ++ t) (sizes_app h5 hs)) ?_)
        by_cases hh : (!(n == (headOf (T ++ t)).1) || (!(s.toList == (headOf (T ++ t)).2.toList))) = true
        · exact Ev.pos hh (Ev.now _)
        · refine Ev.neg hh (ih c (T ++ t) (by omega) h7 (by rw [List.length_append]; omega) (by rw [List.length_append]; omega) (sizes_app h5 hs))
    · refine Ev.neg ha (Ev.bind (impl_same_ev T L (by omega)) ?_)
      rw [decide_eq_false (fun e => by rw [e] at h3; omega)]
      exact Ev.now _
theorem replay_both (b : List Int) (hb : InB b) (hl : b.length ≤ 1048576) (L : List ByteArray) (hL : L.length ≤ 200) (N : Int) (S : ByteArray) (U : Int) : ∀ (m a : Nat) (T : List ByteArray) (n : Int) (s : ByteArray), b.length - a ≤ m → a ≤ b.length → T.length ≤ 200 → (∀ x ∈ T, x.size ≤ bigB) →
    ∃ T' n' s' ok, Ev (fun k => spec_l12Replay.l0 k b (a : Int) T n s) (T', n', s', ok) ∧ T'.length ≤ 200 ∧ (∀ x ∈ T', x.size ≤ bigB) ∧ Ev (fun k => impl_StoreOk.l0 k T (a : Int) L N S b U) (if ok = true then decide (T' = L) else false) := by
  intro m
  induction m with
  | zero =>
    intro a T n s h1 h2 h3 h5
    refine ⟨T, n, s, true, ?_, h3, h5, ?_⟩
    · refine Ev.step (fun k => by simp only [spec_l12Replay.l0]; rfl) ?_
      exact Ev.neg (by omega) (Ev.now _)
    · refine Ev.step (fun k => by simp only [impl_StoreOk.l0]; rfl) ?_
      exact Ev.neg (by omega) (Ev.bind (impl_same_ev T L (by omega)) (Ev.now _))
  | succ m ih =>
    intro a T n s h1 h2 h3 h5
    by_cases ha : (a : Int) < (b.length : Int)
    · obtain ⟨n1, s1, t, nx, ok, e1, e2, ht, hs, c1, c2⟩ := getCommit_step b hb hl a h2
      cases ok with
      | false =>
        refine ⟨T, n, s, false, ?_, h3, h5, ?_⟩
        · refine Ev.step (fun k => by simp only [spec_l12Replay.l0]; rfl) ?_
          refine Ev.pos ha (Ev.bind e1 (Ev.neg (by simp) ?_))
          refine Ev.step (fun k => by simp only [spec_l12Replay.j1]; rfl) ?_
          exact Ev.pos trivial (Ev.now _)
        · refine Ev.step (fun k => by simp only [impl_StoreOk.l0]; rfl) ?_
          refine Ev.pos ha (Ev.bind e2 (Ev.pos (by simp only; omega) ?_))
          simp only [Option.bind_some]
          exact Ev.neg (by simp) (Ev.now _)
      | true =>
        obtain ⟨c, rfl, h6, h7⟩ := c1 rfl
        have hw : wrap64 ((T.length : Int) + (t.length : Int)) = ((T.length + t.length : Nat) : Int) := by
          rw [w64 (by omega) (by omega)]
          omega
        have hsz := sizes_app h5 hs
        have hI : ∀ r, Ev (fun k => if (!(n1 == (headOf (T ++ t)).1) || (!(s1.toList == (headOf (T ++ t)).2.toList))) = true then some false else impl_StoreOk.l0 k (T ++ t) (c : Int) L N S b U) r → Ev (fun k => impl_StoreOk.l0 k T (a : Int) L N S b U) r := by
          intro r hr
          refine Ev.step (fun k => by simp only [impl_StoreOk.l0]; rfl) ?_
          refine Ev.pos ha (Ev.bind e2 (Ev.pos (by simp only; omega) ?_))
          simp only [Option.bind_some]
          exact Ev.pos trivial (Ev.bind (impl_HeadOf_ev (T ++ t) hsz) hr)
        by_cases hm : T.length + t.length ≤ 200
        · have hS : ∀ r, Ev (fun k => if (!(n1 == (headOf (T ++ t)).1) || (!(s1.toList == (headOf (T ++ t)).2.toList))) = true then some (T ++ t, n1, s1, false) else spec_l12Replay.l0 k b (c : Int) (T ++ t) n1 s1) r → Ev (fun k => spec_l12Replay.l0 k b (a : Int) T n s) r := by
            intro r hr
            refine Ev.step (fun k => by simp only [spec_l12Replay.l0]; rfl) ?_
            refine Ev.pos ha (Ev.bind e1 (Ev.pos rfl ?_))
            simp only [hw]
            rw [decide_eq_false (by omega)]
            refine Ev.step (fun k => by simp only [spec_l12Replay.j1]; rfl) ?_
            refine Ev.neg (by simp) (Ev.pos (by omega) ?_)
            simp only [Option.bind_some]
            exact Ev.bind (spec_HeadOf_ev (T ++ t) hsz) hr
          have hlen : (T ++ t).length ≤ 200 := by rw [List.length_append]; exact hm
          by_cases hh : (!(n1 == (headOf (T ++ t)).1) || (!(s1.toList == (headOf (T ++ t)).2.toList))) = true
          · exact ⟨_, _, _, false, hS _ (Ev.pos hh (Ev.now _)), hlen, hsz, hI _ (Ev.pos hh (Ev.now _))⟩
          · obtain ⟨T', n', s', ok, f1, f2, f3, f4⟩ := ih c (T ++ t) n1 s1 (by omega) h7 hlen hsz
            exact ⟨T', n', s', ok, hS _ (Ev.neg hh f1), f2, f3, hI _ (Ev.neg hh f4)⟩
        · refine ⟨T, n, s, false, ?_, h3, h5, ?_⟩
          · refine Ev.step (fun k => by simp only [spec_l12Replay.l0]; rfl) ?_
            refine Ev.pos ha (Ev.bind e1 (Ev.pos rfl ?_))
            simp only [hw]
            rw [decide_eq_true (by omega)]
            refine Ev.step (fun k => by simp only [spec_l12Replay.j1]; rfl) ?_
            exact Ev.pos trivial (Ev.now _)
          · refine hI _ ?_
            by_cases hh : (!(n1 == (headOf (T ++ t)).1) || (!(s1.toList == (headOf (T ++ t)).2.toList))) = true
            · exact Ev.pos hh (Ev.now _)
            · exact Ev.neg hh (impl_many b hb hl L hL N S U (b.length - c) c (T ++ t) (Nat.le_refl _) h7 (by rw [List.length_append]; omega) (by rw [List.length_append]; omega) hsz)
    · refine ⟨T, n, s, true, ?_, h3, h5, ?_⟩
      · refine Ev.step (fun k => by simp only [spec_l12Replay.l0]; rfl) ?_
        exact Ev.neg ha (Ev.now _)
      · refine Ev.step (fun k => by simp only [impl_StoreOk.l0]; rfl) ?_
        exact Ev.neg ha (Ev.bind (impl_same_ev T L (by omega)) (Ev.now _))
/-- A store is right: both say the same of every store. -/
theorem storeOk_both (l : List ByteArray) (n : Int) (s : ByteArray) (b : List Int) (u : Int) (hb : InB b) (hl : b.length ≤ 1048576) (hs : ∀ x ∈ l, x.size ≤ bigB) :
    ∃ r, Ev (fun k => spec_StoreOk.f k l n s b u) r ∧ Ev (fun k => impl_StoreOk.f k l n s b u) r := by
  have jS : Ev (fun k => spec_StoreOk.j0 k true l n s b u) false := by
    refine Ev.step (fun k => by simp only [spec_StoreOk.j0]; rfl) ?_
    exact Ev.pos trivial (Ev.now _)
  have jI : Ev (fun k => impl_StoreOk.j0 k true l n s b u) false := by
    refine Ev.step (fun k => by simp only [impl_StoreOk.j0]; rfl) ?_
    exact Ev.pos trivial (Ev.now _)
  have lS := spec_LogOk_ev l n s hs
  have lI := impl_LogOk_ev l n s hs
  unfold spec_StoreOk.f impl_StoreOk.f
  by_cases h1 : logOk l n s = true
  · by_cases h2 : (b.length : Int) > 60000
    · exact ⟨false, Ev.bind lS (Ev.pos h1 (Ev.pos h2 jS)), Ev.bind lI (Ev.pos h1 (Ev.pos h2 jI))⟩
    · have hlen : l.length ≤ 200 := by
        unfold logOk at h1
        by_cases h : (l.length : Int) ≤ 200
        · omega
        · rw [if_neg h] at h1
          cases h1
      have iS : spec_l1In.f u 0 (b.length : Int) = some (decide (0 ≤ u) && decide (u ≤ (b.length : Int))) := by
        unfold spec_l1In.f
        by_cases h : u ≥ 0
        · rw [if_pos h, decide_eq_true h]
          rfl
        · rw [if_neg h, decide_eq_false h]
          rfl
      have iI : impl_inRange.f u 0 (b.length : Int) = some (decide (0 ≤ u) && decide (u ≤ (b.length : Int))) := by
        unfold impl_inRange.f
        by_cases h : u ≥ 0
        · rw [if_pos h, decide_eq_true h]
          rfl
        · rw [if_neg h, decide_eq_false h]
          rfl
      have fin : ∀ q : Bool, ∃ r, Ev (fun k => spec_StoreOk.j0 k (!q) l n s b u) r ∧ Ev (fun k => impl_StoreOk.j0 k (!q) l n s b u) r := by
        intro q
        cases q with
        | false => exact ⟨false, jS, jI⟩
        | true =>
          obtain ⟨T', n', s', ok, f1, f2, f3, f4⟩ := replay_both b hb hl l hlen n s u b.length 0 [] (headOf []).1 (headOf []).2 (by omega) (by omega) (by simp) (by simp)
          have fI : Ev (fun k => impl_StoreOk.j0 k (!true) l n s b u) (if ok = true then decide (T' = l) else false) := by
            refine Ev.step (fun k => by simp only [impl_StoreOk.j0]; rfl) ?_
            exact Ev.neg (by simp) f4
          have rS : Ev (fun k => spec_l12Replay.f k b) (T', n', s', ok) := by
            unfold spec_l12Replay.f
            exact Ev.bind log_new f1
          refine ⟨_, ?_, fI⟩
          refine Ev.step (fun k => by simp only [spec_StoreOk.j0]; rfl) ?_
          refine Ev.neg (by simp) (Ev.bind rS ?_)
          cases ok with
          | true => exact Ev.pos rfl (Ev.bind (spec_same_ev T' l (by omega)) (Ev.now _))
          | false => exact Ev.neg (by simp) (Ev.now _)
      obtain ⟨r, r1, r2⟩ := fin (decide (0 ≤ u) && decide (u ≤ (b.length : Int)))
      exact ⟨r, Ev.bind lS (Ev.pos h1 (Ev.neg h2 (Ev.bind (Ev.const iS) r1))), Ev.bind lI (Ev.pos h1 (Ev.neg h2 (Ev.bind (Ev.const iI) r2)))⟩
  · exact ⟨false, Ev.bind lS (Ev.neg h1 jS), Ev.bind lI (Ev.neg h1 jI)⟩
end Go.Proofs.Ytjnnglphdaemaaa.Q
end

section
-- Written by a program of this session (wip/tools/pp.sh) over the print of the kit.
namespace Go.Proofs.Ytjnnglphdaemaaa.Q
open Go.RowKit Go.Proofs.YtjnnglphdaemaaaW.PrintWords Go.Proofs.YtjnnglphdaemaaaW.PrintLast Go.Proofs.YtjnnglphdaemaaaW.PrintMore
attribute [local go_sem] max2_int min2_int max_two min_two max_three min_three max_four min_four   -- for this text's walks alone
set_option linter.unusedVariables false
set_option linter.unusedSimpArgs false
attribute [local go_sem high] eqA28
def spec_IsSigned.l0 : Nat → List (S28) → Int → Int → ByteArray → Option (Bool)
 | 0, _, _, _, _ => none
 | k + 1, x0, x5, x602000, x602001 => if x5 < (x0.length : Int) then (if 0 ≤ x5 then (if (((rd_T28 x0 x5).f0) == x602000 && ((((rd_T28 x0 x5).f1).toList) == x602001.toList)) = true then (some true) else (spec_IsSigned.l0 k x0 (wrap64 (x5 + 1)) x602000 x602001)) else (none)) else (some false)
def spec_IsSigned.f (k : Nat) (l0 : List (S28)) (a1_0 : Int) (a1_1 : ByteArray) : Option (Bool) := spec_IsSigned.l0 k l0 0 a1_0 a1_1
theorem spec_IsSigned.mono_l : ∀ k, (∀ y0 y1 y2 y3, LeO (spec_IsSigned.l0 k y0 y1 y2 y3) (spec_IsSigned.l0 (k + 1) y0 y1 y2 y3))
 | 0 => fun _ _ _ _ r h => by simp [spec_IsSigned.l0] at h
 | k + 1 => by
  have ih0 := spec_IsSigned.mono_l k
  ·intro y0 y1 y2 y3
   unfold spec_IsSigned.l0
   repeat' (with_reducible first | exact LeO.refl _ | exact LeO.none _ | apply ih0 | apply LeO.ite | refine LeO.bind ?_ fun _ => ?_)
theorem spec_IsSigned.mono : ∀ a0 a1 a2 k, LeO (spec_IsSigned.f k a0 a1 a2) (spec_IsSigned.f (k + 1) a0 a1 a2) := by
 intro a0 a1 a2 k
 have ih0 := spec_IsSigned.mono_l k
 unfold spec_IsSigned.f
 repeat' (with_reducible first | exact LeO.refl _ | exact LeO.none _ | apply ih0 | apply LeO.ite | refine LeO.bind ?_ fun _ => ?_)
set_option maxHeartbeats 8000000 in
set_option maxRecDepth 100000 in
theorem spec_IsSigned.calls (k : Nat) (A0 : Option Addr) (c0 : Nat) (l0 : List (S28)) (a1_0 : Int) (a1_1 : ByteArray) (r : Bool) (w : World) (hr0 : Kd.C k28 w A0 l0.length l0) (hc0 : l0.length ≤ c0) (h : spec_IsSigned.f k l0 a1_0 a1_1 = some r) :
  Calls Try.prog 79 #[.slice A0 l0.length c0, .agg #[.int .i64 a1_0, .string a1_1]] w fun e w' => e = .returned (.bool r) ∧ Below w.heap.size w w' := by
 have hu28 := Try.underlying28
 have HR0 := Aside0.mk hr0
 have HC0 := Aside0.mk hc0
 clear hr0 hc0
 have HB := Aside0.mk (Below.refl w.heap.size w)
 have H : (spec_IsSigned.l0 k l0 0 a1_0 a1_1) = some r := h
 clear h
 have H' := Aside0.mk H
 clear H
 go_enter Try.func79, Try.ntmps79
 go_wp2_with (first | ((with_reducible refine gd_ 3 ?_); refine bx_ 3 28 #[.int .i64 a1_0, .string a1_1] ?_; intro gb601 hg w3 hbox hb; have BK601 := Aside0.mk hbox; have GW601 := gg_ hg HB; have GE601 := GW601; replace HB := ss_ HB hb; clear hb hbox hg))
 repeat (go_quiet (first | ((with_reducible refine gd_ 3 ?_); refine bx_ 3 28 #[.int .i64 a1_0, .string a1_1] ?_; intro gb601 hg w3 hbox hb; have BK601 := Aside0.mk hbox; have GW601 := gg_ hg HB; have GE601 := gg_ hg HB; replace HB := ss_ HB hb; clear hb hbox hg)); try go_wp2_with (first | ((with_reducible refine gd_ 3 ?_); refine bx_ 3 28 #[.int .i64 a1_0, .string a1_1] ?_; intro gb601 hg w3 hbox hb; have BK601 := Aside0.mk hbox; have GW601 := gg_ hg HB; have GE601 := GW601; replace HB := ss_ HB hb; clear hb hbox hg)))
 go_loopg [5] k (fun kq v5 w' => ∃ (x5_1 : Int), v5 = .int .i64 x5_1 ∧ Aside0 (spec_IsSigned.l0 kq l0 x5_1 a1_0 a1_1 = some r) ∧ Aside0 (kq ≤ k) ∧ Aside0 (w'.heap[gb601]? = some (.cells #[.int .i64 a1_0, .string a1_1] 28 (0, 0))) ∧ Aside0 (Below w.heap.size w w'))
 case atStart => exact ⟨(0), e1_, H', ⟨Nat.le_refl _⟩, ⟨kb_ BK601.out⟩, ⟨bw_ HB⟩⟩
 case round =>
  clear H'
  obtain ⟨x5_1, rfl, HA, HK1, BK601, HB⟩ := hrel
  cases gk with
  | zero => exact absurd HA.out (by simp [spec_IsSigned.l0])
  | succ k1 =>
   have H := HA.out
   clear HA
   simp only [spec_IsSigned.l0] at H
   replace H := itd_ H; obtain ⟨c4b0, H⟩ | ⟨c4b0, H⟩ := H
   ·replace H := ipd_ H; obtain ⟨c5b0, H⟩ := H
    replace H := it_ H; obtain ⟨c6, H⟩ | ⟨c6, H⟩ := H
    ·have c6b0 : (((rd_T28 l0 x5_1).f0) == a1_0 && ((((rd_T28 l0 x5_1).f1).toList) == a1_1.toList)) = true := c6
     (try (have c6b1 : decide (((rd_T28 l0 x5_1).f0) = a1_0 && ((((rd_T28 l0 x5_1).f1).toList) == a1_1.toList)) = true := by simpa using c6))
     (try (have c6b2 : (((rd_T28 l0 x5_1).f0) == a1_0 && ((((rd_T28 l0 x5_1).f1).toList) == a1_1.toList)) = true := by simpa using c6))
     clear c6
     obtain rfl := Option.some.inj H
     have p602 : 0 ≤ (x5_1 : Int) := of_decide_eq_true as_
     have q602 : x5_1 < (l0.length : Int) := of_decide_eq_true as_
     obtain ⟨ad602, e602, hx602_0, hx602_1⟩ := at_T28 HR0.out x5_1 p602 q602
     cases e602
     replace hx602_0 := (HB.out.cell (World.block_lt_of_cell? w _ hx602_0)).trans hx602_0
     replace hx602_1 := (HB.out.cell (World.block_lt_of_cell? w _ hx602_1)).trans hx602_1
     replace p602 := eq_true p602
     replace q602 := eq_true q602
     have hz7 := cz2_ BK601
     go_wp2
     repeat (go_quiet (fail); try go_wp2)
     go_ret
     exact ⟨e2_, bw_ HB⟩
    ·have c6b0 : (((rd_T28 l0 x5_1).f0) == a1_0 && ((((rd_T28 l0 x5_1).f1).toList) == a1_1.toList)) = false := by simpa using c6
     (try (have c6b1 : decide (((rd_T28 l0 x5_1).f0) = a1_0 && ((((rd_T28 l0 x5_1).f1).toList) == a1_1.toList)) = false := by simpa using c6))
     (try (have c6b2 : (((rd_T28 l0 x5_1).f0) == a1_0 && ((((rd_T28 l0 x5_1).f1).toList) == a1_1.toList)) = false := by simpa using c6))
     (try (have c6b3 : ¬ (((rd_T28 l0 x5_1).f0) = a1_0 && ((((rd_T28 l0 x5_1).f1).toList) == a1_1.toList)) := by simpa using c6))
     clear c6
     have H' := Aside0.mk H
     clear H
     have p602 : 0 ≤ (x5_1 : Int) := of_decide_eq_true as_
     have q602 : x5_1 < (l0.length : Int) := of_decide_eq_true as_
     obtain ⟨ad602, e602, hx602_0, hx602_1⟩ := at_T28 HR0.out x5_1 p602 q602
     cases e602
     replace hx602_0 := (HB.out.cell (World.block_lt_of_cell? w _ hx602_0)).trans hx602_0
     replace hx602_1 := (HB.out.cell (World.block_lt_of_cell? w _ hx602_1)).trans hx602_1
     replace p602 := eq_true p602
     replace q602 := eq_true q602
     have hz8 := cz2_ BK601
     go_wp2
     repeat (go_quiet (fail); try go_wp2)
     go_roundg k1
     case measure => have := HK1.out; omega
     case rel => exact ⟨(wrap64 (x5_1 + 1)), e1_, H', ⟨by have := HK1.out; omega⟩, ⟨kb_ BK601.out⟩, ⟨bw_ HB⟩⟩
   ·obtain rfl := Option.some.inj H
    go_wp2
    repeat (go_quiet (fail); try go_wp2)
    go_ret
    exact ⟨e2_, bw_ HB⟩
end Go.Proofs.Ytjnnglphdaemaaa.Q
end

section
-- Written by a program of this session (wip/tools/pp.sh) over the print of the kit.
namespace Go.Proofs.Ytjnnglphdaemaaa.Q
open Go.RowKit Go.Proofs.YtjnnglphdaemaaaW.PrintWords Go.Proofs.YtjnnglphdaemaaaW.PrintLast Go.Proofs.YtjnnglphdaemaaaW.PrintMore
attribute [local go_sem] max2_int min2_int max_two min_two max_three min_three max_four min_four   -- for this text's walks alone
set_option linter.unusedVariables false
set_option linter.unusedSimpArgs false
attribute [local go_sem high] eqA28
def impl_Head_115.l0 : Nat → List (S28) → Int → Int → Int → ByteArray → Option (Int)
 | 0, _, _, _, _, _ => none
 | k + 1, x0, x7, x8, x602000, x602001 => if x8 < x7 then (if 0 ≤ x8 then (if x8 < (x0.length : Int) then (if (x602000 == ((rd_T28 x0 x8).f0) && (x602001.toList == (((rd_T28 x0 x8).f1).toList))) = true then (some x8) else (impl_Head_115.l0 k x0 x7 (wrap64 (x8 + 1)) x602000 x602001)) else (none)) else (none)) else (some (-1))
def impl_Head_115.f (k : Nat) (l0 : List (S28)) (a1_0 : Int) (a1_1 : ByteArray) : Option (Int) := impl_Head_115.l0 k l0 (l0.length : Int) 0 a1_0 a1_1
theorem impl_Head_115.mono_l : ∀ k, (∀ y0 y1 y2 y3 y4, LeO (impl_Head_115.l0 k y0 y1 y2 y3 y4) (impl_Head_115.l0 (k + 1) y0 y1 y2 y3 y4))
 | 0 => fun _ _ _ _ _ r h => by simp [impl_Head_115.l0] at h
 | k + 1 => by
  have ih0 := impl_Head_115.mono_l k
  ·intro y0 y1 y2 y3 y4
   unfold impl_Head_115.l0
   repeat' (with_reducible first | exact LeO.refl _ | exact LeO.none _ | apply ih0 | apply LeO.ite | refine LeO.bind ?_ fun _ => ?_)
theorem impl_Head_115.mono : ∀ a0 a1 a2 k, LeO (impl_Head_115.f k a0 a1 a2) (impl_Head_115.f (k + 1) a0 a1 a2) := by
 intro a0 a1 a2 k
 have ih0 := impl_Head_115.mono_l k
 unfold impl_Head_115.f
 repeat' (with_reducible first | exact LeO.refl _ | exact LeO.none _ | apply ih0 | apply LeO.ite | refine LeO.bind ?_ fun _ => ?_)
set_option maxHeartbeats 8000000 in
set_option maxRecDepth 100000 in
theorem impl_Head_115.calls (k : Nat) (A0 : Option Addr) (c0 : Nat) (l0 : List (S28)) (a1_0 : Int) (a1_1 : ByteArray) (r : Int) (w : World) (hr0 : Kd.C k28 w A0 l0.length l0) (hc0 : l0.length ≤ c0) (h : impl_Head_115.f k l0 a1_0 a1_1 = some r) :
  Calls Try.prog 115 #[.slice A0 l0.length c0, .agg #[.int .i64 a1_0, .string a1_1]] w fun e w' => e = .returned (.int .i64 r) ∧ Below w.heap.size w w' := by
 have hu28 := Try.underlying28
 have HR0 := Aside0.mk hr0
 have HC0 := Aside0.mk hc0
 clear hr0 hc0
 have HB := Aside0.mk (Below.refl w.heap.size w)
 have H : (impl_Head_115.l0 k l0 (l0.length : Int) 0 a1_0 a1_1) = some r := h
 clear h
 have H' := Aside0.mk H
 clear H
 go_enter Try.func115, Try.ntmps115
 go_wp2_with (first | ((with_reducible refine gd_ 3 ?_); refine bx_ 3 28 #[.int .i64 a1_0, .string a1_1] ?_; intro gb601 hg w3 hbox hb; have BK601 := Aside0.mk hbox; have GW601 := gg_ hg HB; have GE601 := GW601; replace HB := ss_ HB hb; clear hb hbox hg))
 repeat (go_quiet (first | ((with_reducible refine gd_ 3 ?_); refine bx_ 3 28 #[.int .i64 a1_0, .string a1_1] ?_; intro gb601 hg w3 hbox hb; have BK601 := Aside0.mk hbox; have GW601 := gg_ hg HB; have GE601 := gg_ hg HB; replace HB := ss_ HB hb; clear hb hbox hg)); try go_wp2_with (first | ((with_reducible refine gd_ 3 ?_); refine bx_ 3 28 #[.int .i64 a1_0, .string a1_1] ?_; intro gb601 hg w3 hbox hb; have BK601 := Aside0.mk hbox; have GW601 := gg_ hg HB; have GE601 := GW601; replace HB := ss_ HB hb; clear hb hbox hg)))
 go_loopg [8] k (fun kq v8 w' => ∃ (x8_1 : Int), v8 = .int .i64 x8_1 ∧ Aside0 (impl_Head_115.l0 kq l0 (l0.length : Int) x8_1 a1_0 a1_1 = some r) ∧ Aside0 (kq ≤ k) ∧ Aside0 (w'.heap[gb601]? = some (.cells #[.int .i64 a1_0, .string a1_1] 28 (0, 0))) ∧ Aside0 (Below w.heap.size w w'))
 case atStart => exact ⟨(0), e1_, H', ⟨Nat.le_refl _⟩, ⟨kb_ BK601.out⟩, ⟨bw_ HB⟩⟩
 case round =>
  clear H'
  obtain ⟨x8_1, rfl, HA, HK1, BK601, HB⟩ := hrel
  cases gk with
  | zero => exact absurd HA.out (by simp [impl_Head_115.l0])
  | succ k1 =>
   have H := HA.out
   clear HA
   simp only [impl_Head_115.l0] at H
   replace H := itd_ H; obtain ⟨c4b0, H⟩ | ⟨c4b0, H⟩ := H
   ·replace H := ipd_ H; obtain ⟨c5b0, H⟩ := H
    replace H := ipd_ H; obtain ⟨c6b0, H⟩ := H
    replace H := it_ H; obtain ⟨c7, H⟩ | ⟨c7, H⟩ := H
    ·have c7b0 : (a1_0 == ((rd_T28 l0 x8_1).f0) && (a1_1.toList == (((rd_T28 l0 x8_1).f1).toList))) = true := c7
     (try (have c7b1 : decide (a1_0 = ((rd_T28 l0 x8_1).f0) && (a1_1.toList == (((rd_T28 l0 x8_1).f1).toList))) = true := by simpa using c7))
     (try (have c7b2 : (a1_0 == ((rd_T28 l0 x8_1).f0) && (a1_1.toList == (((rd_T28 l0 x8_1).f1).toList))) = true := by simpa using c7))
     clear c7
     obtain rfl := Option.some.inj H
     have hz8 := cz2_ BK601
     have p602 : 0 ≤ (x8_1 : Int) := of_decide_eq_true as_
     have q602 : x8_1 < (l0.length : Int) := of_decide_eq_true as_
     obtain ⟨ad602, e602, hx602_0, hx602_1⟩ := at_T28 HR0.out x8_1 p602 q602
     cases e602
     replace hx602_0 := (HB.out.cell (World.block_lt_of_cell? w _ hx602_0)).trans hx602_0
     replace hx602_1 := (HB.out.cell (World.block_lt_of_cell? w _ hx602_1)).trans hx602_1
     replace p602 := eq_true p602
     replace q602 := eq_true q602
     go_wp2
     repeat (go_quiet (fail); try go_wp2)
     go_ret
     exact ⟨e2_, bw_ HB⟩
    ·have c7b0 : (a1_0 == ((rd_T28 l0 x8_1).f0) && (a1_1.toList == (((rd_T28 l0 x8_1).f1).toList))) = false := by simpa using c7
     (try (have c7b1 : decide (a1_0 = ((rd_T28 l0 x8_1).f0) && (a1_1.toList == (((rd_T28 l0 x8_1).f1).toList))) = false := by simpa using c7))
     (try (have c7b2 : (a1_0 == ((rd_T28 l0 x8_1).f0) && (a1_1.toList == (((rd_T28 l0 x8_1).f1).toList))) = false := by simpa using c7))
     (try (have c7b3 : ¬ (a1_0 = ((rd_T28 l0 x8_1).f0) && (a1_1.toList == (((rd_T28 l0 x8_1).f1).toList))) := by simpa using c7))
     clear c7
     have H' := Aside0.mk H
     clear H
     have hz9 := cz2_ BK601
     have p602 : 0 ≤ (x8_1 : Int) := of_decide_eq_true as_
     have q602 : x8_1 < (l0.length : Int) := of_decide_eq_true as_
     obtain ⟨ad602, e602, hx602_0, hx602_1⟩ := at_T28 HR0.out x8_1 p602 q602
     cases e602
     replace hx602_0 := (HB.out.cell (World.block_lt_of_cell? w _ hx602_0)).trans hx602_0
     replace hx602_1 := (HB.out.cell (World.block_lt_of_cell? w _ hx602_1)).trans hx602_1
     replace p602 := eq_true p602
     replace q602 := eq_true q602
     go_wp2
     repeat (go_quiet (fail); try go_wp2)
     go_roundg k1
     case measure => have := HK1.out; omega
     case rel => exact ⟨(wrap64 (x8_1 + 1)), e1_, H', ⟨by have := HK1.out; omega⟩, ⟨kb_ BK601.out⟩, ⟨bw_ HB⟩⟩
   ·obtain rfl := Option.some.inj H
    go_wp2
    repeat (go_quiet (fail); try go_wp2)
    go_ret
    exact ⟨e2_, bw_ HB⟩
end Go.Proofs.Ytjnnglphdaemaaa.Q
end

section
-- Written by a program of this session (wip/tools/pp.sh) over the print of the kit.
namespace Go.Proofs.Ytjnnglphdaemaaa.Q
open Go.RowKit Go.Proofs.YtjnnglphdaemaaaW.PrintWords Go.Proofs.YtjnnglphdaemaaaW.PrintLast Go.Proofs.YtjnnglphdaemaaaW.PrintMore
attribute [local go_sem] max2_int min2_int max_two min_two max_three min_three max_four min_four   -- for this text's walks alone
set_option linter.unusedVariables false
set_option linter.unusedSimpArgs false
def impl_Head_80.f (k : Nat) (l0 : List (S28)) (a1_0 : Int) (a1_1 : ByteArray) : Option (Bool) := (impl_Head_115.f k l0 a1_0 a1_1).bind fun t602 => (some (decide (t602 ≥ 0)))
theorem impl_Head_80.mono : ∀ a0 a1 a2 k, LeO (impl_Head_80.f k a0 a1 a2) (impl_Head_80.f (k + 1) a0 a1 a2) := by
 intro a0 a1 a2 k
 unfold impl_Head_80.f
 repeat' (with_reducible first | exact LeO.refl _ | exact LeO.none _ | apply impl_Head_115.mono | apply LeO.ite | refine LeO.bind ?_ fun _ => ?_)
set_option maxHeartbeats 8000000 in
set_option maxRecDepth 100000 in
theorem impl_Head_80.calls (k : Nat) (A0 : Option Addr) (c0 : Nat) (l0 : List (S28)) (a1_0 : Int) (a1_1 : ByteArray) (r : Bool) (w : World) (hr0 : Kd.C k28 w A0 l0.length l0) (hc0 : l0.length ≤ c0) (h : impl_Head_80.f k l0 a1_0 a1_1 = some r) :
  Calls Try.prog 80 #[.slice A0 l0.length c0, .agg #[.int .i64 a1_0, .string a1_1]] w fun e w' => e = .returned (.bool r) ∧ Below w.heap.size w w' := by
 have hu28 := Try.underlying28
 have HR0 := Aside0.mk hr0
 have HC0 := Aside0.mk hc0
 clear hr0 hc0
 have HB := Aside0.mk (Below.refl w.heap.size w)
 have H : ((impl_Head_115.f k l0 a1_0 a1_1).bind fun t602 => (some (decide (t602 ≥ 0)))) = some r := h
 clear h
 replace H := bi_ H; obtain ⟨t602, A3, H⟩ := H
 obtain rfl := Option.some.inj H
 go_enter Try.func80, Try.ntmps80
 go_wp2_with (first | ((with_reducible refine gd_ 3 ?_); refine bx_ 3 28 #[.int .i64 a1_0, .string a1_1] ?_; intro gb601 hg w4 hbox hb; have BK601 := Aside0.mk hbox; have GW601 := gg_ hg HB; have GE601 := GW601; replace HB := ss_ HB hb; clear hb hbox hg; have hz5 := cz2_ BK601) | ((with_reducible refine gq_ 115 7 ?_); refine gc_ 7 Try.func115 (impl_Head_115.calls k _ _ l0 a1_0 a1_1 t602 _ (cb_ HR0 HB) HC0.out A3.out) ?_; rintro e w6 ⟨rfl, hb⟩; refine ⟨_, rfl, ?_⟩; replace BK601 := kl_ BK601 hb; replace HB := ss_ HB hb; clear hb))
 go_ret
 exact ⟨e2_, bw_ HB⟩
end Go.Proofs.Ytjnnglphdaemaaa.Q
end

section
-- Written by a program of this session (wip/tools/pp.sh) over the print of the kit.
namespace Go.Proofs.Ytjnnglphdaemaaa.Q
open Go.RowKit Go.Proofs.YtjnnglphdaemaaaW.PrintWords Go.Proofs.YtjnnglphdaemaaaW.PrintLast Go.Proofs.YtjnnglphdaemaaaW.PrintMore
attribute [local go_sem] max2_int min2_int max_two min_two max_three min_three max_four min_four   -- for this text's walks alone
set_option linter.unusedVariables false
set_option linter.unusedSimpArgs false
def impl_IsSigned.f (k : Nat) (l0 : List (S28)) (a1_0 : Int) (a1_1 : ByteArray) : Option (Bool) := (impl_Head_80.f k l0 a1_0 a1_1).bind fun t602 => (some t602)
theorem impl_IsSigned.mono : ∀ a0 a1 a2 k, LeO (impl_IsSigned.f k a0 a1 a2) (impl_IsSigned.f (k + 1) a0 a1 a2) := by
 intro a0 a1 a2 k
 unfold impl_IsSigned.f
 repeat' (with_reducible first | exact LeO.refl _ | exact LeO.none _ | apply impl_Head_80.mono | apply LeO.ite | refine LeO.bind ?_ fun _ => ?_)
set_option maxHeartbeats 8000000 in
set_option maxRecDepth 100000 in
theorem impl_IsSigned.calls (k : Nat) (A0 : Option Addr) (c0 : Nat) (l0 : List (S28)) (a1_0 : Int) (a1_1 : ByteArray) (r : Bool) (w : World) (hr0 : Kd.C k28 w A0 l0.length l0) (hc0 : l0.length ≤ c0) (h : impl_IsSigned.f k l0 a1_0 a1_1 = some r) :
  Calls Try.prog 22 #[.slice A0 l0.length c0, .agg #[.int .i64 a1_0, .string a1_1]] w fun e w' => e = .returned (.bool r) ∧ Below w.heap.size w w' := by
 have hu28 := Try.underlying28
 have HR0 := Aside0.mk hr0
 have HC0 := Aside0.mk hc0
 clear hr0 hc0
 have HB := Aside0.mk (Below.refl w.heap.size w)
 have H : ((impl_Head_80.f k l0 a1_0 a1_1).bind fun t602 => (some t602)) = some r := h
 clear h
 replace H := bi_ H; obtain ⟨t602, A3, H⟩ := H
 obtain rfl := Option.some.inj H
 go_enter Try.func22, Try.ntmps22
 go_wp2_with (first | ((with_reducible refine gd_ 3 ?_); refine bx_ 3 28 #[.int .i64 a1_0, .string a1_1] ?_; intro gb601 hg w4 hbox hb; have BK601 := Aside0.mk hbox; have GW601 := gg_ hg HB; have GE601 := GW601; replace HB := ss_ HB hb; clear hb hbox hg; have hz5 := cz2_ BK601) | ((with_reducible refine gq_ 80 7 ?_); refine gc_ 7 Try.func80 (impl_Head_80.calls k _ _ l0 a1_0 a1_1 t602 _ (cb_ HR0 HB) HC0.out A3.out) ?_; rintro e w6 ⟨rfl, hb⟩; refine ⟨_, rfl, ?_⟩; replace BK601 := kl_ BK601 hb; replace HB := ss_ HB hb; clear hb))
 go_ret
 exact ⟨e2_, bw_ HB⟩
end Go.Proofs.Ytjnnglphdaemaaa.Q
end

section
/- IsSigned, the program's and the reference's: whether a list of heads has one of this size and root. -/
namespace Go.Proofs.Ytjnnglphdaemaaa.Q
open Go.RowKit Go.Proofs.Ytjnnglphdaemaaa.B Go.Proofs.YtjnnglphdaemaaaW.PrintWords

def hasHead (l : List IHead) (a : Int) (b : ByteArray) : Bool := l.any fun x => x.f0 == a && (x.f1.toList == b.toList)

theorem rdI {l : List IHead} {i : Nat} {x : IHead} (h : l[i]? = some x) : rd_T28 l (i : Int) = x := by
  unfold rd_T28
  simp [List.getD_eq_getElem?_getD, h]
theorem next64 {i n : Nat} (h : i < n) (hn : n ≤ 9223372036854775807) : wrap64 ((i : Int) + 1) = ((i + 1 : Nat) : Int) := by
  rw [w64 (by omega) (by omega)]
  omega

theorem spec_IsSigned_ev (l : List IHead) (a : Int) (b : ByteArray) (hl : l.length ≤ 9223372036854775807) : Ev (fun k => spec_IsSigned.f k l a b) (hasHead l a b) := by
  have main : ∀ (d i : Nat), i + d = l.length → Ev (fun k => spec_IsSigned.l0 k l (i : Int) a b) (hasHead (l.drop i) a b) := by
    intro d
    induction d with
    | zero =>
      intro i hi
      refine Ev.step (f := fun _ => some false) (fun k => ?_) (Ev.one (Ev.now _) ?_)
      · simp only [spec_IsSigned.l0]
        rw [if_neg (by omega)]
      · rw [List.drop_of_length_le (by omega)]
        rfl
    | succ d ih =>
      intro i hi
      obtain ⟨x, hx⟩ := get_some (l := l) (i := i) (by omega)
      by_cases h : (x.f0 == a && (x.f1.toList == b.toList)) = true
      · refine Ev.step (f := fun _ => some true) (fun k => ?_) (Ev.one (Ev.now _) ?_)
        · simp only [spec_IsSigned.l0]
          rw [if_pos (by omega), if_pos (by omega), rdI hx, if_pos h]
        · rw [drop_one hx]
          simp only [hasHead, List.any_cons, h, Bool.true_or]
      · refine Ev.step (fun k => ?_) (Ev.one (ih (i + 1) (by omega)) ?_)
        · simp only [spec_IsSigned.l0]
          rw [if_pos (by omega), if_pos (by omega), rdI hx, if_neg h, next64 (show i < l.length by omega) hl]
        · rw [drop_one hx]
          simp only [hasHead, List.any_cons, Bool.eq_false_iff.mpr h, Bool.false_or]
  exact main l.length 0 (by omega)

theorem impl_Index_ev (l : List IHead) (a : Int) (b : ByteArray) (hl : l.length ≤ 9223372036854775807) : ∃ r, Ev (fun k => impl_Head_115.f k l a b) r ∧ decide (r ≥ 0) = hasHead l a b := by
  have main : ∀ (d i : Nat), i + d = l.length → ∃ r, Ev (fun k => impl_Head_115.l0 k l (l.length : Int) (i : Int) a b) r ∧ decide (r ≥ 0) = hasHead (l.drop i) a b := by
    intro d
    induction d with
    | zero =>
      intro i hi
      refine ⟨-1, Ev.step (f := fun _ => some (-1)) (fun k => ?_) (Ev.now _), ?_⟩
      · simp only [impl_Head_115.l0]
        rw [if_neg (by omega)]
      · rw [List.drop_of_length_le (by omega)]
        rfl
    | succ d ih =>
      intro i hi
      obtain ⟨x, hx⟩ := get_some (l := l) (i := i) (by omega)
      have hsym : (a == x.f0 && (b.toList == x.f1.toList)) = (x.f0 == a && (x.f1.toList == b.toList)) := by
        rw [Bool.beq_comm (a := a), Bool.beq_comm (a := b.toList)]
      by_cases h : (x.f0 == a && (x.f1.toList == b.toList)) = true
      · refine ⟨(i : Int), Ev.step (f := fun _ => some (i : Int)) (fun k => ?_) (Ev.now _), ?_⟩
        · simp only [impl_Head_115.l0]
          rw [if_pos (by omega), if_pos (by omega), if_pos (by omega), rdI hx, hsym, if_pos h]
        · rw [drop_one hx]
          simp only [hasHead, List.any_cons, h, Bool.true_or]
          exact decide_eq_true (by omega)
      · obtain ⟨r, h1, h2⟩ := ih (i + 1) (by omega)
        refine ⟨r, Ev.step (fun k => ?_) h1, ?_⟩
        · simp only [impl_Head_115.l0]
          rw [if_pos (by omega), if_pos (by omega), if_pos (by omega), rdI hx, hsym, if_neg h, next64 (show i < l.length by omega) hl]
        · rw [h2, drop_one hx]
          simp only [hasHead, List.any_cons, Bool.eq_false_iff.mpr h, Bool.false_or]
  obtain ⟨r, h1, h2⟩ := main l.length 0 (by omega)
  exact ⟨r, h1, h2⟩

theorem impl_IsSigned_ev (l : List IHead) (a : Int) (b : ByteArray) (hl : l.length ≤ 9223372036854775807) : Ev (fun k => impl_IsSigned.f k l a b) (hasHead l a b) := by
  obtain ⟨r, h1, h2⟩ := impl_Index_ev l a b hl
  refine Ev.congr (fun k => by unfold impl_IsSigned.f impl_Head_80.f; rfl) ?_
  refine Ev.bind (Ev.bind h1 (Ev.now _)) ?_
  rw [h2]
  exact Ev.now _
end Go.Proofs.Ytjnnglphdaemaaa.Q
end

section
-- Written by a program of this session (wip/tools/pp.sh) over the print of the kit.
namespace Go.Proofs.Ytjnnglphdaemaaa.Q
open Go.RowKit Go.Proofs.YtjnnglphdaemaaaW.PrintWords Go.Proofs.YtjnnglphdaemaaaW.PrintLast Go.Proofs.YtjnnglphdaemaaaW.PrintMore
attribute [local go_sem] max2_int min2_int max_two min_two max_three min_three max_four min_four   -- for this text's walks alone
set_option linter.unusedVariables false
set_option linter.unusedSimpArgs false
attribute [local go_sem high] eqA28
def spec_l14Known.f (k : Nat) (l0 : List (S28)) (a1_0 : Int) (a1_1 : ByteArray) : Option (Bool) := (spec_HeadOf.f k (([] : List ByteArray))).bind fun bt605 => (if (a1_0 == bt605.1 && (a1_1.toList == bt605.2.toList)) = true then (some true) else ((spec_IsSigned.f k l0 a1_0 a1_1).bind fun t607 => (some t607)))
theorem spec_l14Known.mono : ∀ a0 a1 a2 k, LeO (spec_l14Known.f k a0 a1 a2) (spec_l14Known.f (k + 1) a0 a1 a2) := by
 intro a0 a1 a2 k
 unfold spec_l14Known.f
 repeat' (with_reducible first | exact LeO.refl _ | exact LeO.none _ | apply spec_HeadOf.mono | apply spec_IsSigned.mono | apply LeO.ite | refine LeO.bind ?_ fun _ => ?_)
def spec_l14Known.T1 : Bool × List (List Nat × List Nat) := (true, [([], []), ([], []), ([1], [1]), ([0, 2], [0, 2]), ([3, 2], [3]), ([4], [4]), ([4], [4]), ([5, 6, 4, 4], [4, 5, 6]), ([4, 7], [4, 7]), ([8, 7, 0, 1, 2, 3, 4, 5, 6, 7, 8], [8])])
def spec_l14Known.B1 : List Nat := [0, 0, 2, 7, 15, 31, 31, 127, 255, 511]
theorem spec_l14Known.tab1 : rtab .any (opsOf Try.f91 1) = spec_l14Known.T1 := by kernel_rfl
theorem spec_l14Known.bits1 : waitsOk spec_l14Known.T1.2 spec_l14Known.B1 = true := by kernel_rfl
set_option maxHeartbeats 8000000 in
set_option maxRecDepth 100000 in
theorem spec_l14Known.calls (k : Nat) (A0 : Option Addr) (c0 : Nat) (l0 : List (S28)) (a1_0 : Int) (a1_1 : ByteArray) (r : Bool) (w : World) (hr0 : Kd.C k28 w A0 l0.length l0) (hc0 : l0.length ≤ c0) (h : spec_l14Known.f k l0 a1_0 a1_1 = some r) :
  Calls Try.prog 91 #[.slice A0 l0.length c0, .agg #[.int .i64 a1_0, .string a1_1]] w fun e w' => e = .returned (.bool r) ∧ Below w.heap.size w w' := by
 have hu28 := Try.underlying28
 have HR0 := Aside0.mk hr0
 have HC0 := Aside0.mk hc0
 clear hr0 hc0
 have HB := Aside0.mk (Below.refl w.heap.size w)
 have H : ((spec_HeadOf.f k (([] : List ByteArray))).bind fun bt605 => (if (a1_0 == bt605.1 && (a1_1.toList == bt605.2.toList)) = true then (some true) else ((spec_IsSigned.f k l0 a1_0 a1_1).bind fun t607 => (some t607)))) = some r := h
 clear h
 obtain ⟨y602, hy602⟩ : ∃ y_ : List ByteArray, y_ = (([] : List ByteArray)) := ⟨_, rfl⟩
 replace H : ((spec_HeadOf.f k y602).bind fun bt605 => (if (a1_0 == bt605.1 && (a1_1.toList == bt605.2.toList)) = true then (some true) else ((spec_IsSigned.f k l0 a1_0 a1_1).bind fun t607 => (some t607)))) = some r := yh_ hy602 H
 have Ny602 := Aside0.mk hy602
 clear hy602
 replace H := bi_ H; obtain ⟨⟨t605, t606⟩, A3, H⟩ := H
 dsimp only at H
 replace H := it_ H; obtain ⟨c4, H⟩ | ⟨c4, H⟩ := H
 ·have c4b0 : (a1_0 == t605 && (a1_1.toList == t606.toList)) = true := c4
  (try (have c4b1 : decide (a1_0 = t605 && (a1_1.toList == t606.toList)) = true := by simpa using c4))
  (try (have c4b2 : (a1_0 == t605 && (a1_1.toList == t606.toList)) = true := by simpa using c4))
  clear c4
  obtain rfl := Option.some.inj H
  go_enter Try.func91, Try.ntmps91
  try go_wp2_with (first | ((with_reducible refine gd_ 3 ?_); refine bx_ 3 28 #[.int .i64 a1_0, .string a1_1] ?_; intro gb601 hg w5 hbox hb; have BK601 := Aside0.mk hbox; have GW601 := gg_ hg HB; have GE601 := GW601; replace HB := ss_ HB hb; clear hb hbox hg))
  replace BK601 := Aside0.mk (blk_drew BK601.out)
  replace HB := Aside0.mk (below_drew1 HB.out)
  refine start_ (n := 10) (S := fun w' => w'.cell? ⟨gb601, 0, none⟩ = some (.int .i64 a1_0) ∧ w'.cell? ⟨gb601, 1, none⟩ = some (.string a1_1)) (ds := []) (lz_ 10 0) (by kernel_rfl) rfl rfl ⟨bc0_ BK601.out, bc1_ BK601.out⟩ (fun hHeld => ?_); refine with_tabW spec_l14Known.tab1 spec_l14Known.bits1 (fun HT_ HW_ => ?_)
  generalize w5.drew = w6 at BK601 HB hHeld ⊢
  refine tt_ 0 5 1 ?_
  refine one_ (i := 1) (N := some 6) (lz_ 10 3) rfl rfl (one_of HT_.out (by kernel_rfl)) (by decide) (fun K hK => ?_)
  refine Kd.R_lit_step Kd.string _ 9 ?hg (N := 6) ?hd (xs := ([] : List ByteArray)) (inner := []) (ok := fun _ => True) (okp := fun _ => True) ?hr ?hp (fun _ hk => hk) trivial (Below.refl _ _) (Nat.le_refl _) (by simp) ?_; (case hd => rfl); (case hg => rfl); (case hr => first | (go_simp; done) | (go_simp; rfl)); (case hp => exact (Reps.none _ _))
  intro v603 w7 ho8 hb hg_ hnew_
  clear hg_ hnew_
  (first | rw [← Ny602.out] at ho8 | (simp only [Int.reduceToNat] at ho8; rw [← Ny602.out] at ho8))
  have HO604 := Aside0.mk (Kd.R_lower ho8 (sz_ HB))
  replace BK601 := kl_ BK601 hb
  replace HB := ss_ HB hb
  clear hb ho8
  obtain ⟨Ao9, co9, eo9⟩ := Kd.R_slice HO604.out
  (first | subst eo9 | (injection eo9 with f1_ f2_ f3_; have f4_ := f1_.symm; have f5_ := f3_.symm; clear f1_ f2_ f3_; subst f4_; subst f5_))
  refine hK.out _ _ ⟨bc0_ BK601.out, bc1_ BK601.out⟩ (fun hHeld => ?_)
  clear hK K
  refine no_ 6 ?_
  refine one_ (i := 2) (N := some 7) (lz_ 10 7) rfl rfl (one_of HT_.out (by kernel_rfl)) (by decide) (fun K hK => ?_)
  refine ge_ Try.func72 #[.slice Ao9 y602.length co9] ?_
  with_reducible refine (spec_HeadOf.calls k _ _ y602 t605 t606 _ ?side1 ?side2 A3.out).mono ?_
  (case side1 => exact ch_ HO604)
  (case side2 => exact (cl_ HO604))
  rintro e w10 ⟨rfl, hb⟩
  refine ⟨_, rfl, ?_⟩
  replace HO604 := rb_ HO604 hb
  replace BK601 := kl_ BK601 hb
  replace HB := ss_ HB hb
  clear hb
  refine hK.out _ _ ⟨bc0_ BK601.out, bc1_ BK601.out⟩ (fun hHeld => ?_)
  clear hK K
  refine no_ 7 ?_
  refine pt_ 3 8 15 ?_
  refine pt_ 4 9 31 ?_
  refine ut_ 5 10 63 ?_
  refine ut_ 6 11 127 ?_
  refine ut_ 7 12 255 ?_
  refine pt_ 8 13 511 ?_
  refine pt_ 9 4 1023 ?_
  refine done_ (done_of HT_.out (by kernel_rfl)) ?_
  try go_wp2
  go_ret
  exact ⟨e2_, bw_ HB⟩
 ·have c4b0 : (a1_0 == t605 && (a1_1.toList == t606.toList)) = false := by simpa using c4
  (try (have c4b1 : decide (a1_0 = t605 && (a1_1.toList == t606.toList)) = false := by simpa using c4))
  (try (have c4b2 : (a1_0 == t605 && (a1_1.toList == t606.toList)) = false := by simpa using c4))
  (try (have c4b3 : ¬ (a1_0 = t605 && (a1_1.toList == t606.toList)) := by simpa using c4))
  clear c4
  replace H := bi_ H; obtain ⟨t607, A11, H⟩ := H
  obtain rfl := Option.some.inj H
  go_enter Try.func91, Try.ntmps91
  try go_wp2_with (first | ((with_reducible refine gd_ 3 ?_); refine bx_ 3 28 #[.int .i64 a1_0, .string a1_1] ?_; intro gb601 hg w12 hbox hb; have BK601 := Aside0.mk hbox; have GW601 := gg_ hg HB; have GE601 := GW601; replace HB := ss_ HB hb; clear hb hbox hg))
  replace BK601 := Aside0.mk (blk_drew BK601.out)
  replace HB := Aside0.mk (below_drew1 HB.out)
  refine start_ (n := 10) (S := fun w' => w'.cell? ⟨gb601, 0, none⟩ = some (.int .i64 a1_0) ∧ w'.cell? ⟨gb601, 1, none⟩ = some (.string a1_1)) (ds := []) (lz_ 10 0) (by kernel_rfl) rfl rfl ⟨bc0_ BK601.out, bc1_ BK601.out⟩ (fun hHeld => ?_); refine with_tabW spec_l14Known.tab1 spec_l14Known.bits1 (fun HT_ HW_ => ?_)
  generalize w12.drew = w13 at BK601 HB hHeld ⊢
  refine tt_ 0 5 1 ?_
  refine one_ (i := 1) (N := some 6) (lz_ 10 3) rfl rfl (one_of HT_.out (by kernel_rfl)) (by decide) (fun K hK => ?_)
  refine Kd.R_lit_step Kd.string _ 9 ?hg (N := 6) ?hd (xs := ([] : List ByteArray)) (inner := []) (ok := fun _ => True) (okp := fun _ => True) ?hr ?hp (fun _ hk => hk) trivial (Below.refl _ _) (Nat.le_refl _) (by simp) ?_; (case hd => rfl); (case hg => rfl); (case hr => first | (go_simp; done) | (go_simp; rfl)); (case hp => exact (Reps.none _ _))
  intro v603 w14 ho15 hb hg_ hnew_
  clear hg_ hnew_
  (first | rw [← Ny602.out] at ho15 | (simp only [Int.reduceToNat] at ho15; rw [← Ny602.out] at ho15))
  have HO604 := Aside0.mk (Kd.R_lower ho15 (sz_ HB))
  replace BK601 := kl_ BK601 hb
  replace HB := ss_ HB hb
  clear hb ho15
  obtain ⟨Ao16, co16, eo16⟩ := Kd.R_slice HO604.out
  (first | subst eo16 | (injection eo16 with f1_ f2_ f3_; have f4_ := f1_.symm; have f5_ := f3_.symm; clear f1_ f2_ f3_; subst f4_; subst f5_))
  refine hK.out _ _ ⟨bc0_ BK601.out, bc1_ BK601.out⟩ (fun hHeld => ?_)
  clear hK K
  refine no_ 6 ?_
  refine one_ (i := 2) (N := some 7) (lz_ 10 7) rfl rfl (one_of HT_.out (by kernel_rfl)) (by decide) (fun K hK => ?_)
  refine ge_ Try.func72 #[.slice Ao16 y602.length co16] ?_
  with_reducible refine (spec_HeadOf.calls k _ _ y602 t605 t606 _ ?side1 ?side2 A3.out).mono ?_
  (case side1 => exact ch_ HO604)
  (case side2 => exact (cl_ HO604))
  rintro e w17 ⟨rfl, hb⟩
  refine ⟨_, rfl, ?_⟩
  replace HO604 := rb_ HO604 hb
  replace BK601 := kl_ BK601 hb
  replace HB := ss_ HB hb
  clear hb
  refine hK.out _ _ ⟨bc0_ BK601.out, bc1_ BK601.out⟩ (fun hHeld => ?_)
  clear hK K
  refine no_ 7 ?_
  refine pt_ 3 8 15 ?_
  refine pt_ 4 9 31 ?_
  refine pt_ 5 10 63 ?_
  refine tt_ 6 11 127 ?_
  refine one_ (i := 7) (N := some 12) (lz_ 10 255) rfl rfl (one_of HT_.out (by kernel_rfl)) (by decide) (fun K hK => ?_)
  refine ge_ Try.func79 #[.slice A0 l0.length c0, .agg #[.int .i64 a1_0, .string a1_1]] ?_
  with_reducible refine (spec_IsSigned.calls k _ _ l0 a1_0 a1_1 t607 _ ?side1 ?side2 A11.out).mono ?_
  (case side1 => exact cb_ HR0 HB)
  (case side2 => exact HC0.out)
  rintro e w18 ⟨rfl, hb⟩
  refine ⟨_, rfl, ?_⟩
  replace HO604 := rb_ HO604 hb
  replace BK601 := kl_ BK601 hb
  replace HB := ss_ HB hb
  clear hb
  refine hK.out _ _ ⟨bc0_ BK601.out, bc1_ BK601.out⟩ (fun hHeld => ?_)
  clear hK K
  refine no_ 12 ?_
  refine pt_ 8 13 511 ?_
  refine pt_ 9 4 1023 ?_
  refine done_ (done_of HT_.out (by kernel_rfl)) ?_
  try go_wp2
  go_ret
  exact ⟨e2_, bw_ HB⟩
end Go.Proofs.Ytjnnglphdaemaaa.Q
end

section
-- Written by a program of this session (wip/tools/pp.sh) over the print of the kit.
namespace Go.Proofs.Ytjnnglphdaemaaa.Q
open Go.RowKit Go.Proofs.YtjnnglphdaemaaaW.PrintWords Go.Proofs.YtjnnglphdaemaaaW.PrintLast Go.Proofs.YtjnnglphdaemaaaW.PrintMore
attribute [local go_sem] max2_int min2_int max_two min_two max_three min_three max_four min_four   -- for this text's walks alone
set_option linter.unusedVariables false
set_option linter.unusedSimpArgs false
def spec_MirrorOk.f (k : Nat) (a0_0 : Int) (l0_1 : List ByteArray) (a0_2 : Int) (a0_3 : ByteArray) (l0_4 : List Int) (a0_5 : Int) (a0_6 : Int) (a0_7 : ByteArray) (l1 : List (S28)) : Option (Bool) := (spec_l1In.f a0_0 0 20).bind fun t602 => (if t602 = true then ((spec_StoreOk.f k l0_1 a0_2 a0_3 l0_4 a0_5).bind fun t603 => (if t603 = true then ((spec_HeadOk.f a0_6 a0_7).bind fun t604 => (if t604 = true then ((spec_l14Known.f k l1 a0_6 a0_7).bind fun t605 => (if t605 = true then ((spec_l14Known.f k l1 a0_2 a0_3).bind fun t606 => (some t606)) else (some false))) else (some false))) else (some false))) else (some false))
theorem spec_MirrorOk.mono : ∀ a0 a1 a2 a3 a4 a5 a6 a7 a8 k, LeO (spec_MirrorOk.f k a0 a1 a2 a3 a4 a5 a6 a7 a8) (spec_MirrorOk.f (k + 1) a0 a1 a2 a3 a4 a5 a6 a7 a8) := by
 intro a0 a1 a2 a3 a4 a5 a6 a7 a8 k
 unfold spec_MirrorOk.f
 repeat' (with_reducible first | exact LeO.refl _ | exact LeO.none _ | apply spec_StoreOk.mono | apply spec_l14Known.mono | apply LeO.ite | refine LeO.bind ?_ fun _ => ?_)
set_option maxHeartbeats 8000000 in
set_option maxRecDepth 100000 in
theorem spec_MirrorOk.calls (k : Nat) (a0_0 : Int) (A0_1 : Option Addr) (c0_1 : Nat) (l0_1 : List ByteArray) (a0_2 : Int) (a0_3 : ByteArray) (A0_4 : Option Addr) (c0_4 : Nat) (l0_4 : List Int) (a0_5 : Int) (a0_6 : Int) (a0_7 : ByteArray) (A1 : Option Addr) (c1 : Nat) (l1 : List (S28)) (r : Bool) (w : World) (hr0_1 : Kd.C Kd.string w A0_1 l0_1.length l0_1) (hc0_1 : l0_1.length ≤ c0_1) (hr0_4 : Kd.C (Kd.int .u8) w A0_4 l0_4.length l0_4) (hc0_4 : l0_4.length ≤ c0_4) (hr1 : Kd.C k28 w A1 l1.length l1) (hc1 : l1.length ≤ c1) (h : spec_MirrorOk.f k a0_0 l0_1 a0_2 a0_3 l0_4 a0_5 a0_6 a0_7 l1 = some r) :
  Calls Try.prog 51 #[.agg #[.int .i64 a0_0, .slice A0_1 l0_1.length c0_1, .int .i64 a0_2, .string a0_3, .slice A0_4 l0_4.length c0_4, .int .i64 a0_5, .int .i64 a0_6, .string a0_7], .slice A1 l1.length c1] w fun e w' => e = .returned (.bool r) ∧ Below w.heap.size w w' := by
 have hu82 := Try.underlying82
 have hu37 := Try.underlying37
 have hu28 := Try.underlying28
 have HR0_1 := Aside0.mk hr0_1
 have HC0_1 := Aside0.mk hc0_1
 clear hr0_1 hc0_1
 have HR0_4 := Aside0.mk hr0_4
 have HC0_4 := Aside0.mk hc0_4
 clear hr0_4 hc0_4
 have HR1 := Aside0.mk hr1
 have HC1 := Aside0.mk hc1
 clear hr1 hc1
 have HB := Aside0.mk (Below.refl w.heap.size w)
 have H : ((spec_l1In.f a0_0 0 20).bind fun t602 => (if t602 = true then ((spec_StoreOk.f k l0_1 a0_2 a0_3 l0_4 a0_5).bind fun t603 => (if t603 = true then ((spec_HeadOk.f a0_6 a0_7).bind fun t604 => (if t604 = true then ((spec_l14Known.f k l1 a0_6 a0_7).bind fun t605 => (if t605 = true then ((spec_l14Known.f k l1 a0_2 a0_3).bind fun t606 => (some t606)) else (some false))) else (some false))) else (some false))) else (some false))) = some r := h
 clear h
 replace H := bi_ H; obtain ⟨t602, A3, H⟩ := H
 replace H := itb_ H; obtain ⟨rfl, H⟩ | ⟨rfl, H⟩ := H
 ·replace H := bi_ H; obtain ⟨t603, A5, H⟩ := H
  replace H := itb_ H; obtain ⟨rfl, H⟩ | ⟨rfl, H⟩ := H
  ·replace H := bi_ H; obtain ⟨t604, A7, H⟩ := H
   replace H := itb_ H; obtain ⟨rfl, H⟩ | ⟨rfl, H⟩ := H
   ·replace H := bi_ H; obtain ⟨t605, A9, H⟩ := H
    replace H := itb_ H; obtain ⟨rfl, H⟩ | ⟨rfl, H⟩ := H
    ·replace H := bi_ H; obtain ⟨t606, A11, H⟩ := H
     obtain rfl := Option.some.inj H
     go_enter Try.func51, Try.ntmps51
     go_wp2_with (first | ((with_reducible refine gd_ 2 ?_); refine bx_ 2 82 #[.int .i64 a0_0, .slice A0_1 l0_1.length c0_1, .int .i64 a0_2, .string a0_3, .slice A0_4 l0_4.length c0_4, .int .i64 a0_5, .int .i64 a0_6, .string a0_7] ?_; intro gb601 hg w12 hbox hb; have BK601 := Aside0.mk hbox; have GW601 := gg_ hg HB; have GE601 := GW601; replace HB := ss_ HB hb; clear hb hbox hg; have hcz13_0 := bc0_ BK601.out; have hcz13_1 := bc1_ BK601.out; have hcz13_2 := bc2_ BK601.out; have hcz13_3 := bc3_ BK601.out; have hcz13_4 := bc4_ BK601.out; have hcz13_5 := bc5_ BK601.out; have hcz13_6 := bc6_ BK601.out; have hcz13_7 := bc7_ BK601.out; have hfz13_0 := blk_frozen BK601.out 0; have hfz13_1 := blk_frozen BK601.out 1; have hfz13_2 := blk_frozen BK601.out 2; have hfz13_3 := blk_frozen BK601.out 3; have hfz13_4 := blk_frozen BK601.out 4; have hfz13_5 := blk_frozen BK601.out 5; have hfz13_6 := blk_frozen BK601.out 6; have hfz13_7 := blk_frozen BK601.out 7) | ((with_reducible refine gq_ 90 7 ?_); refine gc_ 7 Try.func90 (spec_l1In.calls a0_0 0 20 true _ A3.out) ?_; rintro e w' ⟨rfl, ⟨nd, rfl⟩⟩; refine ⟨_, rfl, ?_⟩) | (go_at_call 88; (with_reducible refine (spec_StoreOk.calls k _ _ l0_1 a0_2 a0_3 _ _ l0_4 a0_5 true _ ?side1 ?side2 ?side3 ?side4 A5.out).mono ?_); (case side1 => exact cr_ (Kd.C_below HR0_1.out (bw_ HB))); (case side2 => exact HC0_1.out); (case side3 => exact cr_ (Kd.C_below HR0_4.out (bw_ HB))); (case side4 => exact HC0_4.out); rintro e w14 ⟨rfl, hb⟩; replace BK601 := kl_ BK601 hb; replace HB := ss_ HB hb; clear hb; have hcz15_0 := bc0_ BK601.out; have hcz15_1 := bc1_ BK601.out; have hcz15_2 := bc2_ BK601.out; have hcz15_3 := bc3_ BK601.out; have hcz15_4 := bc4_ BK601.out; have hcz15_5 := bc5_ BK601.out; have hcz15_6 := bc6_ BK601.out; have hcz15_7 := bc7_ BK601.out; have hfz15_0 := blk_frozen BK601.out 0; have hfz15_1 := blk_frozen BK601.out 1; have hfz15_2 := blk_frozen BK601.out 2; have hfz15_3 := blk_frozen BK601.out 3; have hfz15_4 := blk_frozen BK601.out 4; have hfz15_5 := blk_frozen BK601.out 5; have hfz15_6 := blk_frozen BK601.out 6; have hfz15_7 := blk_frozen BK601.out 7) | (go_at_call 78; (with_reducible refine (spec_HeadOk.calls a0_6 a0_7 true _ A7.out).mono ?_); rintro e w16 ⟨rfl, hb⟩; replace BK601 := kl_ BK601 hb; replace HB := ss_ HB hb; clear hb; have hcz17_0 := bc0_ BK601.out; have hcz17_1 := bc1_ BK601.out; have hcz17_2 := bc2_ BK601.out; have hcz17_3 := bc3_ BK601.out; have hcz17_4 := bc4_ BK601.out; have hcz17_5 := bc5_ BK601.out; have hcz17_6 := bc6_ BK601.out; have hcz17_7 := bc7_ BK601.out; have hfz17_0 := blk_frozen BK601.out 0; have hfz17_1 := blk_frozen BK601.out 1; have hfz17_2 := blk_frozen BK601.out 2; have hfz17_3 := blk_frozen BK601.out 3; have hfz17_4 := blk_frozen BK601.out 4; have hfz17_5 := blk_frozen BK601.out 5; have hfz17_6 := blk_frozen BK601.out 6; have hfz17_7 := blk_frozen BK601.out 7) | (go_at_call 91; (with_reducible refine (spec_l14Known.calls k _ _ l1 a0_6 a0_7 true _ ?side1 ?side2 A9.out).mono ?_); (case side1 => exact cb_ HR1 HB); (case side2 => exact HC1.out); rintro e w18 ⟨rfl, hb⟩; replace BK601 := kl_ BK601 hb; replace HB := ss_ HB hb; clear hb; have hcz19_0 := bc0_ BK601.out; have hcz19_1 := bc1_ BK601.out; have hcz19_2 := bc2_ BK601.out; have hcz19_3 := bc3_ BK601.out; have hcz19_4 := bc4_ BK601.out; have hcz19_5 := bc5_ BK601.out; have hcz19_6 := bc6_ BK601.out; have hcz19_7 := bc7_ BK601.out; have hfz19_0 := blk_frozen BK601.out 0; have hfz19_1 := blk_frozen BK601.out 1; have hfz19_2 := blk_frozen BK601.out 2; have hfz19_3 := blk_frozen BK601.out 3; have hfz19_4 := blk_frozen BK601.out 4; have hfz19_5 := blk_frozen BK601.out 5; have hfz19_6 := blk_frozen BK601.out 6; have hfz19_7 := blk_frozen BK601.out 7) | (go_at_call 91; (with_reducible refine (spec_l14Known.calls k _ _ l1 a0_2 a0_3 t606 _ ?side1 ?side2 A11.out).mono ?_); (case side1 => exact cb_ HR1 HB); (case side2 => exact HC1.out); rintro e w20 ⟨rfl, hb⟩; replace BK601 := kl_ BK601 hb; replace HB := ss_ HB hb; clear hb))
     go_ret
     exact ⟨e2_, bw_ HB⟩
    ·obtain rfl := Option.some.inj H
     go_enter Try.func51, Try.ntmps51
     go_wp2_with (first | ((with_reducible refine gd_ 2 ?_); refine bx_ 2 82 #[.int .i64 a0_0, .slice A0_1 l0_1.length c0_1, .int .i64 a0_2, .string a0_3, .slice A0_4 l0_4.length c0_4, .int .i64 a0_5, .int .i64 a0_6, .string a0_7] ?_; intro gb601 hg w21 hbox hb; have BK601 := Aside0.mk hbox; have GW601 := gg_ hg HB; have GE601 := GW601; replace HB := ss_ HB hb; clear hb hbox hg; have hcz22_0 := bc0_ BK601.out; have hcz22_1 := bc1_ BK601.out; have hcz22_2 := bc2_ BK601.out; have hcz22_3 := bc3_ BK601.out; have hcz22_4 := bc4_ BK601.out; have hcz22_5 := bc5_ BK601.out; have hcz22_6 := bc6_ BK601.out; have hcz22_7 := bc7_ BK601.out; have hfz22_0 := blk_frozen BK601.out 0; have hfz22_1 := blk_frozen BK601.out 1; have hfz22_2 := blk_frozen BK601.out 2; have hfz22_3 := blk_frozen BK601.out 3; have hfz22_4 := blk_frozen BK601.out 4; have hfz22_5 := blk_frozen BK601.out 5; have hfz22_6 := blk_frozen BK601.out 6; have hfz22_7 := blk_frozen BK601.out 7) | ((with_reducible refine gq_ 90 7 ?_); refine gc_ 7 Try.func90 (spec_l1In.calls a0_0 0 20 true _ A3.out) ?_; rintro e w' ⟨rfl, ⟨nd, rfl⟩⟩; refine ⟨_, rfl, ?_⟩) | (go_at_call 88; (with_reducible refine (spec_StoreOk.calls k _ _ l0_1 a0_2 a0_3 _ _ l0_4 a0_5 true _ ?side1 ?side2 ?side3 ?side4 A5.out).mono ?_); (case side1 => exact cr_ (Kd.C_below HR0_1.out (bw_ HB))); (case side2 => exact HC0_1.out); (case side3 => exact cr_ (Kd.C_below HR0_4.out (bw_ HB))); (case side4 => exact HC0_4.out); rintro e w23 ⟨rfl, hb⟩; replace BK601 := kl_ BK601 hb; replace HB := ss_ HB hb; clear hb; have hcz24_0 := bc0_ BK601.out; have hcz24_1 := bc1_ BK601.out; have hcz24_2 := bc2_ BK601.out; have hcz24_3 := bc3_ BK601.out; have hcz24_4 := bc4_ BK601.out; have hcz24_5 := bc5_ BK601.out; have hcz24_6 := bc6_ BK601.out; have hcz24_7 := bc7_ BK601.out; have hfz24_0 := blk_frozen BK601.out 0; have hfz24_1 := blk_frozen BK601.out 1; have hfz24_2 := blk_frozen BK601.out 2; have hfz24_3 := blk_frozen BK601.out 3; have hfz24_4 := blk_frozen BK601.out 4; have hfz24_5 := blk_frozen BK601.out 5; have hfz24_6 := blk_frozen BK601.out 6; have hfz24_7 := blk_frozen BK601.out 7) | (go_at_call 78; (with_reducible refine (spec_HeadOk.calls a0_6 a0_7 true _ A7.out).mono ?_); rintro e w25 ⟨rfl, hb⟩; replace BK601 := kl_ BK601 hb; replace HB := ss_ HB hb; clear hb; have hcz26_0 := bc0_ BK601.out; have hcz26_1 := bc1_ BK601.out; have hcz26_2 := bc2_ BK601.out; have hcz26_3 := bc3_ BK601.out; have hcz26_4 := bc4_ BK601.out; have hcz26_5 := bc5_ BK601.out; have hcz26_6 := bc6_ BK601.out; have hcz26_7 := bc7_ BK601.out; have hfz26_0 := blk_frozen BK601.out 0; have hfz26_1 := blk_frozen BK601.out 1; have hfz26_2 := blk_frozen BK601.out 2; have hfz26_3 := blk_frozen BK601.out 3; have hfz26_4 := blk_frozen BK601.out 4; have hfz26_5 := blk_frozen BK601.out 5; have hfz26_6 := blk_frozen BK601.out 6; have hfz26_7 := blk_frozen BK601.out 7) | (go_at_call 91; (with_reducible refine (spec_l14Known.calls k _ _ l1 a0_6 a0_7 false _ ?side1 ?side2 A9.out).mono ?_); (case side1 => exact cb_ HR1 HB); (case side2 => exact HC1.out); rintro e w27 ⟨rfl, hb⟩; replace BK601 := kl_ BK601 hb; replace HB := ss_ HB hb; clear hb))
     go_ret
     exact ⟨e2_, bw_ HB⟩
   ·obtain rfl := Option.some.inj H
    go_enter Try.func51, Try.ntmps51
    go_wp2_with (first | ((with_reducible refine gd_ 2 ?_); refine bx_ 2 82 #[.int .i64 a0_0, .slice A0_1 l0_1.length c0_1, .int .i64 a0_2, .string a0_3, .slice A0_4 l0_4.length c0_4, .int .i64 a0_5, .int .i64 a0_6, .string a0_7] ?_; intro gb601 hg w28 hbox hb; have BK601 := Aside0.mk hbox; have GW601 := gg_ hg HB; have GE601 := GW601; replace HB := ss_ HB hb; clear hb hbox hg; have hcz29_0 := bc0_ BK601.out; have hcz29_1 := bc1_ BK601.out; have hcz29_2 := bc2_ BK601.out; have hcz29_3 := bc3_ BK601.out; have hcz29_4 := bc4_ BK601.out; have hcz29_5 := bc5_ BK601.out; have hcz29_6 := bc6_ BK601.out; have hcz29_7 := bc7_ BK601.out; have hfz29_0 := blk_frozen BK601.out 0; have hfz29_1 := blk_frozen BK601.out 1; have hfz29_2 := blk_frozen BK601.out 2; have hfz29_3 := blk_frozen BK601.out 3; have hfz29_4 := blk_frozen BK601.out 4; have hfz29_5 := blk_frozen BK601.out 5; have hfz29_6 := blk_frozen BK601.out 6; have hfz29_7 := blk_frozen BK601.out 7) | ((with_reducible refine gq_ 90 7 ?_); refine gc_ 7 Try.func90 (spec_l1In.calls a0_0 0 20 true _ A3.out) ?_; rintro e w' ⟨rfl, ⟨nd, rfl⟩⟩; refine ⟨_, rfl, ?_⟩) | (go_at_call 88; (with_reducible refine (spec_StoreOk.calls k _ _ l0_1 a0_2 a0_3 _ _ l0_4 a0_5 true _ ?side1 ?side2 ?side3 ?side4 A5.out).mono ?_); (case side1 => exact cr_ (Kd.C_below HR0_1.out (bw_ HB))); (case side2 => exact HC0_1.out); (case side3 => exact cr_ (Kd.C_below HR0_4.out (bw_ HB))); (case side4 => exact HC0_4.out); rintro e w30 ⟨rfl, hb⟩; replace BK601 := kl_ BK601 hb; replace HB := ss_ HB hb; clear hb; have hcz31_0 := bc0_ BK601.out; have hcz31_1 := bc1_ BK601.out; have hcz31_2 := bc2_ BK601.out; have hcz31_3 := bc3_ BK601.out; have hcz31_4 := bc4_ BK601.out; have hcz31_5 := bc5_ BK601.out; have hcz31_6 := bc6_ BK601.out; have hcz31_7 := bc7_ BK601.out; have hfz31_0 := blk_frozen BK601.out 0; have hfz31_1 := blk_frozen BK601.out 1; have hfz31_2 := blk_frozen BK601.out 2; have hfz31_3 := blk_frozen BK601.out 3; have hfz31_4 := blk_frozen BK601.out 4; have hfz31_5 := blk_frozen BK601.out 5; have hfz31_6 := blk_frozen BK601.out 6; have hfz31_7 := blk_frozen BK601.out 7) | (go_at_call 78; (with_reducible refine (spec_HeadOk.calls a0_6 a0_7 false _ A7.out).mono ?_); rintro e w32 ⟨rfl, hb⟩; replace BK601 := kl_ BK601 hb; replace HB := ss_ HB hb; clear hb))
    go_ret
    exact ⟨e2_, bw_ HB⟩
  ·obtain rfl := Option.some.inj H
   go_enter Try.func51, Try.ntmps51
   go_wp2_with (first | ((with_reducible refine gd_ 2 ?_); refine bx_ 2 82 #[.int .i64 a0_0, .slice A0_1 l0_1.length c0_1, .int .i64 a0_2, .string a0_3, .slice A0_4 l0_4.length c0_4, .int .i64 a0_5, .int .i64 a0_6, .string a0_7] ?_; intro gb601 hg w33 hbox hb; have BK601 := Aside0.mk hbox; have GW601 := gg_ hg HB; have GE601 := GW601; replace HB := ss_ HB hb; clear hb hbox hg; have hcz34_0 := bc0_ BK601.out; have hcz34_1 := bc1_ BK601.out; have hcz34_2 := bc2_ BK601.out; have hcz34_3 := bc3_ BK601.out; have hcz34_4 := bc4_ BK601.out; have hcz34_5 := bc5_ BK601.out; have hcz34_6 := bc6_ BK601.out; have hcz34_7 := bc7_ BK601.out; have hfz34_0 := blk_frozen BK601.out 0; have hfz34_1 := blk_frozen BK601.out 1; have hfz34_2 := blk_frozen BK601.out 2; have hfz34_3 := blk_frozen BK601.out 3; have hfz34_4 := blk_frozen BK601.out 4; have hfz34_5 := blk_frozen BK601.out 5; have hfz34_6 := blk_frozen BK601.out 6; have hfz34_7 := blk_frozen BK601.out 7) | ((with_reducible refine gq_ 90 7 ?_); refine gc_ 7 Try.func90 (spec_l1In.calls a0_0 0 20 true _ A3.out) ?_; rintro e w' ⟨rfl, ⟨nd, rfl⟩⟩; refine ⟨_, rfl, ?_⟩) | (go_at_call 88; (with_reducible refine (spec_StoreOk.calls k _ _ l0_1 a0_2 a0_3 _ _ l0_4 a0_5 false _ ?side1 ?side2 ?side3 ?side4 A5.out).mono ?_); (case side1 => exact cr_ (Kd.C_below HR0_1.out (bw_ HB))); (case side2 => exact HC0_1.out); (case side3 => exact cr_ (Kd.C_below HR0_4.out (bw_ HB))); (case side4 => exact HC0_4.out); rintro e w35 ⟨rfl, hb⟩; replace BK601 := kl_ BK601 hb; replace HB := ss_ HB hb; clear hb))
   go_ret
   exact ⟨e2_, bw_ HB⟩
 ·obtain rfl := Option.some.inj H
  go_enter Try.func51, Try.ntmps51
  go_wp2_with (first | ((with_reducible refine gd_ 2 ?_); refine bx_ 2 82 #[.int .i64 a0_0, .slice A0_1 l0_1.length c0_1, .int .i64 a0_2, .string a0_3, .slice A0_4 l0_4.length c0_4, .int .i64 a0_5, .int .i64 a0_6, .string a0_7] ?_; intro gb601 hg w36 hbox hb; have BK601 := Aside0.mk hbox; have GW601 := gg_ hg HB; have GE601 := GW601; replace HB := ss_ HB hb; clear hb hbox hg; have hcz37_0 := bc0_ BK601.out; have hcz37_1 := bc1_ BK601.out; have hcz37_2 := bc2_ BK601.out; have hcz37_3 := bc3_ BK601.out; have hcz37_4 := bc4_ BK601.out; have hcz37_5 := bc5_ BK601.out; have hcz37_6 := bc6_ BK601.out; have hcz37_7 := bc7_ BK601.out; have hfz37_0 := blk_frozen BK601.out 0; have hfz37_1 := blk_frozen BK601.out 1; have hfz37_2 := blk_frozen BK601.out 2; have hfz37_3 := blk_frozen BK601.out 3; have hfz37_4 := blk_frozen BK601.out 4; have hfz37_5 := blk_frozen BK601.out 5; have hfz37_6 := blk_frozen BK601.out 6; have hfz37_7 := blk_frozen BK601.out 7) | ((with_reducible refine gq_ 90 7 ?_); refine gc_ 7 Try.func90 (spec_l1In.calls a0_0 0 20 false _ A3.out) ?_; rintro e w' ⟨rfl, ⟨nd, rfl⟩⟩; refine ⟨_, rfl, ?_⟩))
  go_ret
  exact ⟨e2_, bw_ HB⟩
end Go.Proofs.Ytjnnglphdaemaaa.Q
end

section
-- Written by a program of this session (wip/tools/pp.sh) over the print of the kit.
namespace Go.Proofs.Ytjnnglphdaemaaa.Q
open Go.RowKit Go.Proofs.YtjnnglphdaemaaaW.PrintWords Go.Proofs.YtjnnglphdaemaaaW.PrintLast Go.Proofs.YtjnnglphdaemaaaW.PrintMore
attribute [local go_sem] max2_int min2_int max_two min_two max_three min_three max_four min_four   -- for this text's walks alone
set_option linter.unusedVariables false
set_option linter.unusedSimpArgs false
def impl_isId.f (a0 : Int) : Option (Bool) := (impl_inRange.f a0 0 20).bind fun t601 => (some t601)
set_option maxHeartbeats 8000000 in
set_option maxRecDepth 100000 in
theorem impl_isId.calls (a0 : Int) (r : Bool) (w : World) (h : impl_isId.f a0 = some r) :
  Calls Try.prog 92 #[.int .i64 a0] w fun e w' => e = .returned (.bool r) ∧ Drawn0 w w' := by
 have H : ((impl_inRange.f a0 0 20).bind fun t601 => (some t601)) = some r := h
 clear h
 replace H := bi_ H; obtain ⟨t601, A2, H⟩ := H
 obtain rfl := Option.some.inj H
 go_enter Try.func92, Try.ntmps92
 go_wp2_with (first | ((with_reducible refine gq_ 67 4 ?_); refine gc_ 4 Try.func67 (impl_inRange.calls a0 0 20 t601 _ A2.out) ?_; rintro e w' ⟨rfl, ⟨nd, rfl⟩⟩; refine ⟨_, rfl, ?_⟩))
 go_ret
 exact ⟨e1_, dw_⟩
end Go.Proofs.Ytjnnglphdaemaaa.Q
end

section
-- Written by a program of this session (wip/tools/pp.sh) over the print of the kit.
namespace Go.Proofs.Ytjnnglphdaemaaa.Q
open Go.RowKit Go.Proofs.YtjnnglphdaemaaaW.PrintWords Go.Proofs.YtjnnglphdaemaaaW.PrintLast Go.Proofs.YtjnnglphdaemaaaW.PrintMore
attribute [local go_sem] max2_int min2_int max_two min_two max_three min_three max_four min_four   -- for this text's walks alone
set_option linter.unusedVariables false
set_option linter.unusedSimpArgs false
attribute [local go_sem high] eqA28
def impl_isKnown.f (k : Nat) (l0 : List (S28)) (a1_0 : Int) (a1_1 : ByteArray) : Option (Bool) := (impl_HeadOf.f k ([] : List ByteArray)).bind fun bt602 => (if (a1_0 == bt602.1 && (a1_1.toList == bt602.2.toList)) = true then (some true) else ((impl_IsSigned.f k l0 a1_0 a1_1).bind fun t604 => (some t604)))
theorem impl_isKnown.mono : ∀ a0 a1 a2 k, LeO (impl_isKnown.f k a0 a1 a2) (impl_isKnown.f (k + 1) a0 a1 a2) := by
 intro a0 a1 a2 k
 unfold impl_isKnown.f
 repeat' (with_reducible first | exact LeO.refl _ | exact LeO.none _ | apply impl_HeadOf.mono | apply impl_IsSigned.mono | apply LeO.ite | refine LeO.bind ?_ fun _ => ?_)
def impl_isKnown.T1 : Bool × List (List Nat × List Nat) := (true, [([], []), ([], []), ([0, 1], [0, 1]), ([2, 1], [2]), ([3], [3]), ([3], [3]), ([4, 5, 3, 3], [3, 4, 5]), ([3, 6], [3, 6]), ([7, 6, 0, 1, 2, 3, 4, 5, 6, 7], [7])])
def impl_isKnown.B1 : List Nat := [0, 0, 3, 7, 15, 15, 63, 127, 255]
theorem impl_isKnown.tab1 : rtab .any (opsOf Try.f94 1) = impl_isKnown.T1 := by kernel_rfl
theorem impl_isKnown.bits1 : waitsOk impl_isKnown.T1.2 impl_isKnown.B1 = true := by kernel_rfl
set_option maxHeartbeats 8000000 in
set_option maxRecDepth 100000 in
theorem impl_isKnown.calls (k : Nat) (A0 : Option Addr) (c0 : Nat) (l0 : List (S28)) (a1_0 : Int) (a1_1 : ByteArray) (r : Bool) (w : World) (hr0 : Kd.C k28 w A0 l0.length l0) (hc0 : l0.length ≤ c0) (h : impl_isKnown.f k l0 a1_0 a1_1 = some r) :
  Calls Try.prog 94 #[.slice A0 l0.length c0, .agg #[.int .i64 a1_0, .string a1_1]] w fun e w' => e = .returned (.bool r) ∧ Below w.heap.size w w' := by
 have hu28 := Try.underlying28
 have HR0 := Aside0.mk hr0
 have HC0 := Aside0.mk hc0
 clear hr0 hc0
 have HB := Aside0.mk (Below.refl w.heap.size w)
 have H : ((impl_HeadOf.f k ([] : List ByteArray)).bind fun bt602 => (if (a1_0 == bt602.1 && (a1_1.toList == bt602.2.toList)) = true then (some true) else ((impl_IsSigned.f k l0 a1_0 a1_1).bind fun t604 => (some t604)))) = some r := h
 clear h
 replace H := bi_ H; obtain ⟨⟨t602, t603⟩, A3, H⟩ := H
 dsimp only at H
 replace H := it_ H; obtain ⟨c4, H⟩ | ⟨c4, H⟩ := H
 ·have c4b0 : (a1_0 == t602 && (a1_1.toList == t603.toList)) = true := c4
  (try (have c4b1 : decide (a1_0 = t602 && (a1_1.toList == t603.toList)) = true := by simpa using c4))
  (try (have c4b2 : (a1_0 == t602 && (a1_1.toList == t603.toList)) = true := by simpa using c4))
  clear c4
  obtain rfl := Option.some.inj H
  go_enter Try.func94, Try.ntmps94
  try go_wp2_with (first | ((with_reducible refine gd_ 3 ?_); refine bx_ 3 28 #[.int .i64 a1_0, .string a1_1] ?_; intro gb601 hg w5 hbox hb; have BK601 := Aside0.mk hbox; have GW601 := gg_ hg HB; have GE601 := GW601; replace HB := ss_ HB hb; clear hb hbox hg))
  replace BK601 := Aside0.mk (blk_drew BK601.out)
  replace HB := Aside0.mk (below_drew1 HB.out)
  refine start_ (n := 9) (S := fun w' => w'.cell? ⟨gb601, 0, none⟩ = some (.int .i64 a1_0) ∧ w'.cell? ⟨gb601, 1, none⟩ = some (.string a1_1)) (ds := []) (lz_ 9 0) (by kernel_rfl) rfl rfl ⟨bc0_ BK601.out, bc1_ BK601.out⟩ (fun hHeld => ?_); refine with_tabW impl_isKnown.tab1 impl_isKnown.bits1 (fun HT_ HW_ => ?_)
  generalize w5.drew = w6 at BK601 HB hHeld ⊢
  refine tt_ 0 5 1 ?_
  refine one_ (i := 1) (N := some 6) (lz_ 9 3) rfl rfl (one_of HT_.out (by kernel_rfl)) (by decide) (fun K hK => ?_)
  refine ge_ Try.func12 #[.slice none 0 0] ?_
  refine (impl_HeadOf.calls k _ _ ([] : List ByteArray) t602 t603 _ ?side1 ?side2 A3.out).mono ?_
  (case side1 => exact Kd.C_nil _ _)
  (case side2 => exact Nat.le_refl _)
  rintro e w7 ⟨rfl, hb⟩
  refine ⟨_, rfl, ?_⟩
  replace BK601 := kl_ BK601 hb
  replace HB := ss_ HB hb
  clear hb
  refine hK.out _ _ ⟨bc0_ BK601.out, bc1_ BK601.out⟩ (fun hHeld => ?_)
  clear hK K
  refine no_ 6 ?_
  refine pt_ 2 7 7 ?_
  refine pt_ 3 8 15 ?_
  refine ut_ 4 9 31 ?_
  refine ut_ 5 10 63 ?_
  refine ut_ 6 11 127 ?_
  refine pt_ 7 12 255 ?_
  refine pt_ 8 4 511 ?_
  refine done_ (done_of HT_.out (by kernel_rfl)) ?_
  try go_wp2
  go_ret
  exact ⟨e2_, bw_ HB⟩
 ·have c4b0 : (a1_0 == t602 && (a1_1.toList == t603.toList)) = false := by simpa using c4
  (try (have c4b1 : decide (a1_0 = t602 && (a1_1.toList == t603.toList)) = false := by simpa using c4))
  (try (have c4b2 : (a1_0 == t602 && (a1_1.toList == t603.toList)) = false := by simpa using c4))
  (try (have c4b3 : ¬ (a1_0 = t602 && (a1_1.toList == t603.toList)) := by simpa using c4))
  clear c4
  replace H := bi_ H; obtain ⟨t604, A8, H⟩ := H
  obtain rfl := Option.some.inj H
  go_enter Try.func94, Try.ntmps94
  try go_wp2_with (first | ((with_reducible refine gd_ 3 ?_); refine bx_ 3 28 #[.int .i64 a1_0, .string a1_1] ?_; intro gb601 hg w9 hbox hb; have BK601 := Aside0.mk hbox; have GW601 := gg_ hg HB; have GE601 := GW601; replace HB := ss_ HB hb; clear hb hbox hg))
  replace BK601 := Aside0.mk (blk_drew BK601.out)
  replace HB := Aside0.mk (below_drew1 HB.out)
  refine start_ (n := 9) (S := fun w' => w'.cell? ⟨gb601, 0, none⟩ = some (.int .i64 a1_0) ∧ w'.cell? ⟨gb601, 1, none⟩ = some (.string a1_1)) (ds := []) (lz_ 9 0) (by kernel_rfl) rfl rfl ⟨bc0_ BK601.out, bc1_ BK601.out⟩ (fun hHeld => ?_); refine with_tabW impl_isKnown.tab1 impl_isKnown.bits1 (fun HT_ HW_ => ?_)
  generalize w9.drew = w10 at BK601 HB hHeld ⊢
  refine tt_ 0 5 1 ?_
  refine one_ (i := 1) (N := some 6) (lz_ 9 3) rfl rfl (one_of HT_.out (by kernel_rfl)) (by decide) (fun K hK => ?_)
  refine ge_ Try.func12 #[.slice none 0 0] ?_
  refine (impl_HeadOf.calls k _ _ ([] : List ByteArray) t602 t603 _ ?side1 ?side2 A3.out).mono ?_
  (case side1 => exact Kd.C_nil _ _)
  (case side2 => exact Nat.le_refl _)
  rintro e w11 ⟨rfl, hb⟩
  refine ⟨_, rfl, ?_⟩
  replace BK601 := kl_ BK601 hb
  replace HB := ss_ HB hb
  clear hb
  refine hK.out _ _ ⟨bc0_ BK601.out, bc1_ BK601.out⟩ (fun hHeld => ?_)
  clear hK K
  refine no_ 6 ?_
  refine pt_ 2 7 7 ?_
  refine pt_ 3 8 15 ?_
  refine pt_ 4 9 31 ?_
  refine tt_ 5 10 63 ?_
  refine one_ (i := 6) (N := some 11) (lz_ 9 127) rfl rfl (one_of HT_.out (by kernel_rfl)) (by decide) (fun K hK => ?_)
  refine ge_ Try.func22 #[.slice A0 l0.length c0, .agg #[.int .i64 a1_0, .string a1_1]] ?_
  with_reducible refine (impl_IsSigned.calls k _ _ l0 a1_0 a1_1 t604 _ ?side1 ?side2 A8.out).mono ?_
  (case side1 => exact cb_ HR0 HB)
  (case side2 => exact HC0.out)
  rintro e w12 ⟨rfl, hb⟩
  refine ⟨_, rfl, ?_⟩
  replace BK601 := kl_ BK601 hb
  replace HB := ss_ HB hb
  clear hb
  refine hK.out _ _ ⟨bc0_ BK601.out, bc1_ BK601.out⟩ (fun hHeld => ?_)
  clear hK K
  refine no_ 11 ?_
  refine pt_ 7 12 255 ?_
  refine pt_ 8 4 511 ?_
  refine done_ (done_of HT_.out (by kernel_rfl)) ?_
  try go_wp2
  go_ret
  exact ⟨e2_, bw_ HB⟩
end Go.Proofs.Ytjnnglphdaemaaa.Q
end

section
-- Written by a program of this session (wip/tools/pp.sh) over the print of the kit.
namespace Go.Proofs.Ytjnnglphdaemaaa.Q
open Go.RowKit Go.Proofs.YtjnnglphdaemaaaW.PrintWords Go.Proofs.YtjnnglphdaemaaaW.PrintLast Go.Proofs.YtjnnglphdaemaaaW.PrintMore
attribute [local go_sem] max2_int min2_int max_two min_two max_three min_three max_four min_four   -- for this text's walks alone
set_option linter.unusedVariables false
set_option linter.unusedSimpArgs false
def impl_MirrorOk.f (k : Nat) (a0_0 : Int) (l0_1 : List ByteArray) (a0_2 : Int) (a0_3 : ByteArray) (l0_4 : List Int) (a0_5 : Int) (a0_6 : Int) (a0_7 : ByteArray) (l1 : List (S28)) : Option (Bool) := (impl_isId.f a0_0).bind fun t602 => (if t602 = true then ((impl_HeadOk.f a0_6 a0_7).bind fun t603 => (if t603 = true then ((impl_isKnown.f k l1 a0_6 a0_7).bind fun t604 => (if t604 = true then ((impl_isKnown.f k l1 a0_2 a0_3).bind fun t605 => (if t605 = true then ((impl_StoreOk.f k l0_1 a0_2 a0_3 l0_4 a0_5).bind fun t606 => (some t606)) else (some false))) else (some false))) else (some false))) else (some false))
theorem impl_MirrorOk.mono : ∀ a0 a1 a2 a3 a4 a5 a6 a7 a8 k, LeO (impl_MirrorOk.f k a0 a1 a2 a3 a4 a5 a6 a7 a8) (impl_MirrorOk.f (k + 1) a0 a1 a2 a3 a4 a5 a6 a7 a8) := by
 intro a0 a1 a2 a3 a4 a5 a6 a7 a8 k
 unfold impl_MirrorOk.f
 repeat' (with_reducible first | exact LeO.refl _ | exact LeO.none _ | apply impl_StoreOk.mono | apply impl_isKnown.mono | apply LeO.ite | refine LeO.bind ?_ fun _ => ?_)
set_option maxHeartbeats 8000000 in
set_option maxRecDepth 100000 in
theorem impl_MirrorOk.calls (k : Nat) (a0_0 : Int) (A0_1 : Option Addr) (c0_1 : Nat) (l0_1 : List ByteArray) (a0_2 : Int) (a0_3 : ByteArray) (A0_4 : Option Addr) (c0_4 : Nat) (l0_4 : List Int) (a0_5 : Int) (a0_6 : Int) (a0_7 : ByteArray) (A1 : Option Addr) (c1 : Nat) (l1 : List (S28)) (r : Bool) (w : World) (hr0_1 : Kd.C Kd.string w A0_1 l0_1.length l0_1) (hc0_1 : l0_1.length ≤ c0_1) (hr0_4 : Kd.C (Kd.int .u8) w A0_4 l0_4.length l0_4) (hc0_4 : l0_4.length ≤ c0_4) (hr1 : Kd.C k28 w A1 l1.length l1) (hc1 : l1.length ≤ c1) (h : impl_MirrorOk.f k a0_0 l0_1 a0_2 a0_3 l0_4 a0_5 a0_6 a0_7 l1 = some r) :
  Calls Try.prog 53 #[.agg #[.int .i64 a0_0, .slice A0_1 l0_1.length c0_1, .int .i64 a0_2, .string a0_3, .slice A0_4 l0_4.length c0_4, .int .i64 a0_5, .int .i64 a0_6, .string a0_7], .slice A1 l1.length c1] w fun e w' => e = .returned (.bool r) ∧ Below w.heap.size w w' := by
 have hu82 := Try.underlying82
 have hu28 := Try.underlying28
 have hu37 := Try.underlying37
 have HR0_1 := Aside0.mk hr0_1
 have HC0_1 := Aside0.mk hc0_1
 clear hr0_1 hc0_1
 have HR0_4 := Aside0.mk hr0_4
 have HC0_4 := Aside0.mk hc0_4
 clear hr0_4 hc0_4
 have HR1 := Aside0.mk hr1
 have HC1 := Aside0.mk hc1
 clear hr1 hc1
 have HB := Aside0.mk (Below.refl w.heap.size w)
 have H : ((impl_isId.f a0_0).bind fun t602 => (if t602 = true then ((impl_HeadOk.f a0_6 a0_7).bind fun t603 => (if t603 = true then ((impl_isKnown.f k l1 a0_6 a0_7).bind fun t604 => (if t604 = true then ((impl_isKnown.f k l1 a0_2 a0_3).bind fun t605 => (if t605 = true then ((impl_StoreOk.f k l0_1 a0_2 a0_3 l0_4 a0_5).bind fun t606 => (some t606)) else (some false))) else (some false))) else (some false))) else (some false))) = some r := h
 clear h
 replace H := bi_ H; obtain ⟨t602, A3, H⟩ := H
 replace H := itb_ H; obtain ⟨rfl, H⟩ | ⟨rfl, H⟩ := H
 ·replace H := bi_ H; obtain ⟨t603, A5, H⟩ := H
  replace H := itb_ H; obtain ⟨rfl, H⟩ | ⟨rfl, H⟩ := H
  ·replace H := bi_ H; obtain ⟨t604, A7, H⟩ := H
   replace H := itb_ H; obtain ⟨rfl, H⟩ | ⟨rfl, H⟩ := H
   ·replace H := bi_ H; obtain ⟨t605, A9, H⟩ := H
    replace H := itb_ H; obtain ⟨rfl, H⟩ | ⟨rfl, H⟩ := H
    ·replace H := bi_ H; obtain ⟨t606, A11, H⟩ := H
     obtain rfl := Option.some.inj H
     go_enter Try.func53, Try.ntmps53
     go_wp2_with (first | ((with_reducible refine gd_ 2 ?_); refine bx_ 2 82 #[.int .i64 a0_0, .slice A0_1 l0_1.length c0_1, .int .i64 a0_2, .string a0_3, .slice A0_4 l0_4.length c0_4, .int .i64 a0_5, .int .i64 a0_6, .string a0_7] ?_; intro gb601 hg w12 hbox hb; have BK601 := Aside0.mk hbox; have GW601 := gg_ hg HB; have GE601 := GW601; replace HB := ss_ HB hb; clear hb hbox hg; have hcz13_0 := bc0_ BK601.out; have hcz13_1 := bc1_ BK601.out; have hcz13_2 := bc2_ BK601.out; have hcz13_3 := bc3_ BK601.out; have hcz13_4 := bc4_ BK601.out; have hcz13_5 := bc5_ BK601.out; have hcz13_6 := bc6_ BK601.out; have hcz13_7 := bc7_ BK601.out; have hfz13_0 := blk_frozen BK601.out 0; have hfz13_1 := blk_frozen BK601.out 1; have hfz13_2 := blk_frozen BK601.out 2; have hfz13_3 := blk_frozen BK601.out 3; have hfz13_4 := blk_frozen BK601.out 4; have hfz13_5 := blk_frozen BK601.out 5; have hfz13_6 := blk_frozen BK601.out 6; have hfz13_7 := blk_frozen BK601.out 7) | ((with_reducible refine gq_ 92 7 ?_); refine gc_ 7 Try.func92 (impl_isId.calls a0_0 true _ A3.out) ?_; rintro e w' ⟨rfl, ⟨nd, rfl⟩⟩; refine ⟨_, rfl, ?_⟩) | (go_at_call 93; (with_reducible refine (impl_HeadOk.calls a0_6 a0_7 true _ A5.out).mono ?_); rintro e w14 ⟨rfl, hb⟩; replace BK601 := kl_ BK601 hb; replace HB := ss_ HB hb; clear hb; have hcz15_0 := bc0_ BK601.out; have hcz15_1 := bc1_ BK601.out; have hcz15_2 := bc2_ BK601.out; have hcz15_3 := bc3_ BK601.out; have hcz15_4 := bc4_ BK601.out; have hcz15_5 := bc5_ BK601.out; have hcz15_6 := bc6_ BK601.out; have hcz15_7 := bc7_ BK601.out; have hfz15_0 := blk_frozen BK601.out 0; have hfz15_1 := blk_frozen BK601.out 1; have hfz15_2 := blk_frozen BK601.out 2; have hfz15_3 := blk_frozen BK601.out 3; have hfz15_4 := blk_frozen BK601.out 4; have hfz15_5 := blk_frozen BK601.out 5; have hfz15_6 := blk_frozen BK601.out 6; have hfz15_7 := blk_frozen BK601.out 7) | (go_at_call 94; (with_reducible refine (impl_isKnown.calls k _ _ l1 a0_6 a0_7 true _ ?side1 ?side2 A7.out).mono ?_); (case side1 => exact cb_ HR1 HB); (case side2 => exact HC1.out); rintro e w16 ⟨rfl, hb⟩; replace BK601 := kl_ BK601 hb; replace HB := ss_ HB hb; clear hb; have hcz17_0 := bc0_ BK601.out; have hcz17_1 := bc1_ BK601.out; have hcz17_2 := bc2_ BK601.out; have hcz17_3 := bc3_ BK601.out; have hcz17_4 := bc4_ BK601.out; have hcz17_5 := bc5_ BK601.out; have hcz17_6 := bc6_ BK601.out; have hcz17_7 := bc7_ BK601.out; have hfz17_0 := blk_frozen BK601.out 0; have hfz17_1 := blk_frozen BK601.out 1; have hfz17_2 := blk_frozen BK601.out 2; have hfz17_3 := blk_frozen BK601.out 3; have hfz17_4 := blk_frozen BK601.out 4; have hfz17_5 := blk_frozen BK601.out 5; have hfz17_6 := blk_frozen BK601.out 6; have hfz17_7 := blk_frozen BK601.out 7) | (go_at_call 94; (with_reducible refine (impl_isKnown.calls k _ _ l1 a0_2 a0_3 true _ ?side1 ?side2 A9.out).mono ?_); (case side1 => exact cb_ HR1 HB); (case side2 => exact HC1.out); rintro e w18 ⟨rfl, hb⟩; replace BK601 := kl_ BK601 hb; replace HB := ss_ HB hb; clear hb; have hcz19_0 := bc0_ BK601.out; have hcz19_1 := bc1_ BK601.out; have hcz19_2 := bc2_ BK601.out; have hcz19_3 := bc3_ BK601.out; have hcz19_4 := bc4_ BK601.out; have hcz19_5 := bc5_ BK601.out; have hcz19_6 := bc6_ BK601.out; have hcz19_7 := bc7_ BK601.out; have hfz19_0 := blk_frozen BK601.out 0; have hfz19_1 := blk_frozen BK601.out 1; have hfz19_2 := blk_frozen BK601.out 2; have hfz19_3 := blk_frozen BK601.out 3; have hfz19_4 := blk_frozen BK601.out 4; have hfz19_5 := blk_frozen BK601.out 5; have hfz19_6 := blk_frozen BK601.out 6; have hfz19_7 := blk_frozen BK601.out 7) | (go_at_call 19; (with_reducible refine (impl_StoreOk.calls k _ _ l0_1 a0_2 a0_3 _ _ l0_4 a0_5 t606 _ ?side1 ?side2 ?side3 ?side4 A11.out).mono ?_); (case side1 => exact cb_ HR0_1 HB); (case side2 => exact HC0_1.out); (case side3 => exact cb_ HR0_4 HB); (case side4 => exact HC0_4.out); rintro e w20 ⟨rfl, hb⟩; replace BK601 := kl_ BK601 hb; replace HB := ss_ HB hb; clear hb))
     go_ret
     exact ⟨e2_, bw_ HB⟩
    ·obtain rfl := Option.some.inj H
     go_enter Try.func53, Try.ntmps53
     go_wp2_with (first | ((with_reducible refine gd_ 2 ?_); refine bx_ 2 82 #[.int .i64 a0_0, .slice A0_1 l0_1.length c0_1, .int .i64 a0_2, .string a0_3, .slice A0_4 l0_4.length c0_4, .int .i64 a0_5, .int .i64 a0_6, .string a0_7] ?_; intro gb601 hg w21 hbox hb; have BK601 := Aside0.mk hbox; have GW601 := gg_ hg HB; have GE601 := GW601; replace HB := ss_ HB hb; clear hb hbox hg; have hcz22_0 := bc0_ BK601.out; have hcz22_1 := bc1_ BK601.out; have hcz22_2 := bc2_ BK601.out; have hcz22_3 := bc3_ BK601.out; have hcz22_4 := bc4_ BK601.out; have hcz22_5 := bc5_ BK601.out; have hcz22_6 := bc6_ BK601.out; have hcz22_7 := bc7_ BK601.out; have hfz22_0 := blk_frozen BK601.out 0; have hfz22_1 := blk_frozen BK601.out 1; have hfz22_2 := blk_frozen BK601.out 2; have hfz22_3 := blk_frozen BK601.out 3; have hfz22_4 := blk_frozen BK601.out 4; have hfz22_5 := blk_frozen BK601.out 5; have hfz22_6 := blk_frozen BK601.out 6; have hfz22_7 := blk_frozen BK601.out 7) | ((with_reducible refine gq_ 92 7 ?_); refine gc_ 7 Try.func92 (impl_isId.calls a0_0 true _ A3.out) ?_; rintro e w' ⟨rfl, ⟨nd, rfl⟩⟩; refine ⟨_, rfl, ?_⟩) | (go_at_call 93; (with_reducible refine (impl_HeadOk.calls a0_6 a0_7 true _ A5.out).mono ?_); rintro e w23 ⟨rfl, hb⟩; replace BK601 := kl_ BK601 hb; replace HB := ss_ HB hb; clear hb; have hcz24_0 := bc0_ BK601.out; have hcz24_1 := bc1_ BK601.out; have hcz24_2 := bc2_ BK601.out; have hcz24_3 := bc3_ BK601.out; have hcz24_4 := bc4_ BK601.out; have hcz24_5 := bc5_ BK601.out; have hcz24_6 := bc6_ BK601.out; have hcz24_7 := bc7_ BK601.out; have hfz24_0 := blk_frozen BK601.out 0; have hfz24_1 := blk_frozen BK601.out 1; have hfz24_2 := blk_frozen BK601.out 2; have hfz24_3 := blk_frozen BK601.out 3; have hfz24_4 := blk_frozen BK601.out 4; have hfz24_5 := blk_frozen BK601.out 5; have hfz24_6 := blk_frozen BK601.out 6; have hfz24_7 := blk_frozen BK601.out 7) | (go_at_call 94; (with_reducible refine (impl_isKnown.calls k _ _ l1 a0_6 a0_7 true _ ?side1 ?side2 A7.out).mono ?_); (case side1 => exact cb_ HR1 HB); (case side2 => exact HC1.out); rintro e w25 ⟨rfl, hb⟩; replace BK601 := kl_ BK601 hb; replace HB := ss_ HB hb; clear hb; have hcz26_0 := bc0_ BK601.out; have hcz26_1 := bc1_ BK601.out; have hcz26_2 := bc2_ BK601.out; have hcz26_3 := bc3_ BK601.out; have hcz26_4 := bc4_ BK601.out; have hcz26_5 := bc5_ BK601.out; have hcz26_6 := bc6_ BK601.out; have hcz26_7 := bc7_ BK601.out; have hfz26_0 := blk_frozen BK601.out 0; have hfz26_1 := blk_frozen BK601.out 1; have hfz26_2 := blk_frozen BK601.out 2; have hfz26_3 := blk_frozen BK601.out 3; have hfz26_4 := blk_frozen BK601.out 4; have hfz26_5 := blk_frozen BK601.out 5; have hfz26_6 := blk_frozen BK601.out 6; have hfz26_7 := blk_frozen BK601.out 7) | (go_at_call 94; (with_reducible refine (impl_isKnown.calls k _ _ l1 a0_2 a0_3 false _ ?side1 ?side2 A9.out).mono ?_); (case side1 => exact cb_ HR1 HB); (case side2 => exact HC1.out); rintro e w27 ⟨rfl, hb⟩; replace BK601 := kl_ BK601 hb; replace HB := ss_ HB hb; clear hb))
     go_ret
     exact ⟨e2_, bw_ HB⟩
   ·obtain rfl := Option.some.inj H
    go_enter Try.func53, Try.ntmps53
    go_wp2_with (first | ((with_reducible refine gd_ 2 ?_); refine bx_ 2 82 #[.int .i64 a0_0, .slice A0_1 l0_1.length c0_1, .int .i64 a0_2, .string a0_3, .slice A0_4 l0_4.length c0_4, .int .i64 a0_5, .int .i64 a0_6, .string a0_7] ?_; intro gb601 hg w28 hbox hb; have BK601 := Aside0.mk hbox; have GW601 := gg_ hg HB; have GE601 := GW601; replace HB := ss_ HB hb; clear hb hbox hg; have hcz29_0 := bc0_ BK601.out; have hcz29_1 := bc1_ BK601.out; have hcz29_2 := bc2_ BK601.out; have hcz29_3 := bc3_ BK601.out; have hcz29_4 := bc4_ BK601.out; have hcz29_5 := bc5_ BK601.out; have hcz29_6 := bc6_ BK601.out; have hcz29_7 := bc7_ BK601.out; have hfz29_0 := blk_frozen BK601.out 0; have hfz29_1 := blk_frozen BK601.out 1; have hfz29_2 := blk_frozen BK601.out 2; have hfz29_3 := blk_frozen BK601.out 3; have hfz29_4 := blk_frozen BK601.out 4; have hfz29_5 := blk_frozen BK601.out 5; have hfz29_6 := blk_frozen BK601.out 6; have hfz29_7 := blk_frozen BK601.out 7) | ((with_reducible refine gq_ 92 7 ?_); refine gc_ 7 Try.func92 (impl_isId.calls a0_0 true _ A3.out) ?_; rintro e w' ⟨rfl, ⟨nd, rfl⟩⟩; refine ⟨_, rfl, ?_⟩) | (go_at_call 93; (with_reducible refine (impl_HeadOk.calls a0_6 a0_7 true _ A5.out).mono ?_); rintro e w30 ⟨rfl, hb⟩; replace BK601 := kl_ BK601 hb; replace HB := ss_ HB hb; clear hb; have hcz31_0 := bc0_ BK601.out; have hcz31_1 := bc1_ BK601.out; have hcz31_2 := bc2_ BK601.out; have hcz31_3 := bc3_ BK601.out; have hcz31_4 := bc4_ BK601.out; have hcz31_5 := bc5_ BK601.out; have hcz31_6 := bc6_ BK601.out; have hcz31_7 := bc7_ BK601.out; have hfz31_0 := blk_frozen BK601.out 0; have hfz31_1 := blk_frozen BK601.out 1; have hfz31_2 := blk_frozen BK601.out 2; have hfz31_3 := blk_frozen BK601.out 3; have hfz31_4 := blk_frozen BK601.out 4; have hfz31_5 := blk_frozen BK601.out 5; have hfz31_6 := blk_frozen BK601.out 6; have hfz31_7 := blk_frozen BK601.out 7) | (go_at_call 94; (with_reducible refine (impl_isKnown.calls k _ _ l1 a0_6 a0_7 false _ ?side1 ?side2 A7.out).mono ?_); (case side1 => exact cb_ HR1 HB); (case side2 => exact HC1.out); rintro e w32 ⟨rfl, hb⟩; replace BK601 := kl_ BK601 hb; replace HB := ss_ HB hb; clear hb))
    go_ret
    exact ⟨e2_, bw_ HB⟩
  ·obtain rfl := Option.some.inj H
   go_enter Try.func53, Try.ntmps53
   go_wp2_with (first | ((with_reducible refine gd_ 2 ?_); refine bx_ 2 82 #[.int .i64 a0_0, .slice A0_1 l0_1.length c0_1, .int .i64 a0_2, .string a0_3, .slice A0_4 l0_4.length c0_4, .int .i64 a0_5, .int .i64 a0_6, .string a0_7] ?_; intro gb601 hg w33 hbox hb; have BK601 := Aside0.mk hbox; have GW601 := gg_ hg HB; have GE601 := GW601; replace HB := ss_ HB hb; clear hb hbox hg; have hcz34_0 := bc0_ BK601.out; have hcz34_1 := bc1_ BK601.out; have hcz34_2 := bc2_ BK601.out; have hcz34_3 := bc3_ BK601.out; have hcz34_4 := bc4_ BK601.out; have hcz34_5 := bc5_ BK601.out; have hcz34_6 := bc6_ BK601.out; have hcz34_7 := bc7_ BK601.out; have hfz34_0 := blk_frozen BK601.out 0; have hfz34_1 := blk_frozen BK601.out 1; have hfz34_2 := blk_frozen BK601.out 2; have hfz34_3 := blk_frozen BK601.out 3; have hfz34_4 := blk_frozen BK601.out 4; have hfz34_5 := blk_frozen BK601.out 5; have hfz34_6 := blk_frozen BK601.out 6; have hfz34_7 := blk_frozen BK601.out 7) | ((with_reducible refine gq_ 92 7 ?_); refine gc_ 7 Try.func92 (impl_isId.calls a0_0 true _ A3.out) ?_; rintro e w' ⟨rfl, ⟨nd, rfl⟩⟩; refine ⟨_, rfl, ?_⟩) | (go_at_call 93; (with_reducible refine (impl_HeadOk.calls a0_6 a0_7 false _ A5.out).mono ?_); rintro e w35 ⟨rfl, hb⟩; replace BK601 := kl_ BK601 hb; replace HB := ss_ HB hb; clear hb))
   go_ret
   exact ⟨e2_, bw_ HB⟩
 ·obtain rfl := Option.some.inj H
  go_enter Try.func53, Try.ntmps53
  go_wp2_with (first | ((with_reducible refine gd_ 2 ?_); refine bx_ 2 82 #[.int .i64 a0_0, .slice A0_1 l0_1.length c0_1, .int .i64 a0_2, .string a0_3, .slice A0_4 l0_4.length c0_4, .int .i64 a0_5, .int .i64 a0_6, .string a0_7] ?_; intro gb601 hg w36 hbox hb; have BK601 := Aside0.mk hbox; have GW601 := gg_ hg HB; have GE601 := GW601; replace HB := ss_ HB hb; clear hb hbox hg; have hcz37_0 := bc0_ BK601.out; have hcz37_1 := bc1_ BK601.out; have hcz37_2 := bc2_ BK601.out; have hcz37_3 := bc3_ BK601.out; have hcz37_4 := bc4_ BK601.out; have hcz37_5 := bc5_ BK601.out; have hcz37_6 := bc6_ BK601.out; have hcz37_7 := bc7_ BK601.out; have hfz37_0 := blk_frozen BK601.out 0; have hfz37_1 := blk_frozen BK601.out 1; have hfz37_2 := blk_frozen BK601.out 2; have hfz37_3 := blk_frozen BK601.out 3; have hfz37_4 := blk_frozen BK601.out 4; have hfz37_5 := blk_frozen BK601.out 5; have hfz37_6 := blk_frozen BK601.out 6; have hfz37_7 := blk_frozen BK601.out 7) | ((with_reducible refine gq_ 92 7 ?_); refine gc_ 7 Try.func92 (impl_isId.calls a0_0 false _ A3.out) ?_; rintro e w' ⟨rfl, ⟨nd, rfl⟩⟩; refine ⟨_, rfl, ?_⟩))
  go_ret
  exact ⟨e2_, bw_ HB⟩
end Go.Proofs.Ytjnnglphdaemaaa.Q
end

section
/- MirrorOk, the program's and the reference's: they return the same. -/
namespace Go.Proofs.Ytjnnglphdaemaaa.Q
open Go.RowKit Go.Proofs.Ytjnnglphdaemaaa.B Go.Proofs.YtjnnglphdaemaaaW.PrintWords
set_option linter.unusedVariables false
/-- A head is one that a table knows: the empty one, or one of the table's. -/
def isKnown (t : List IHead) (a : Int) (s : ByteArray) : Bool := (a == (headOf []).1 && (s.toList == (headOf []).2.toList)) || hasHead t a s
theorem spec_Known_ev (t : List IHead) (a : Int) (s : ByteArray) (ht : t.length ≤ 9223372036854775807) : Ev (fun k => spec_l14Known.f k t a s) (isKnown t a s) := by
  unfold spec_l14Known.f isKnown
  refine Ev.bind (spec_HeadOf_ev [] (by simp)) ?_
  by_cases h : (a == (headOf []).1 && (s.toList == (headOf []).2.toList)) = true
  · exact Ev.pos h (Ev.one (Ev.now _) (by rw [h]; rfl))
  · exact Ev.neg h (Ev.bind (spec_IsSigned_ev t a s ht) (Ev.one (Ev.now _) (by rw [Bool.eq_false_iff.mpr h]; rfl)))
theorem impl_known_ev (t : List IHead) (a : Int) (s : ByteArray) (ht : t.length ≤ 9223372036854775807) : Ev (fun k => impl_isKnown.f k t a s) (isKnown t a s) := by
  unfold impl_isKnown.f isKnown
  refine Ev.bind (impl_HeadOf_ev [] (by simp)) ?_
  by_cases h : (a == (headOf []).1 && (s.toList == (headOf []).2.toList)) = true
  · exact Ev.pos h (Ev.one (Ev.now _) (by rw [h]; rfl))
  · exact Ev.neg h (Ev.bind (impl_IsSigned_ev t a s ht) (Ev.one (Ev.now _) (by rw [Bool.eq_false_iff.mpr h]; rfl)))
theorem isId_eq (i : Int) : impl_isId.f i = some (decide (0 ≤ i ∧ i ≤ 20)) := by
  unfold impl_isId.f
  rw [impl_in_eq]
  rfl
theorem mirrorOk_both (i : Int) (l : List ByteArray) (n : Int) (s : ByteArray) (b : List Int) (u c : Int) (z : ByteArray) (t : List IHead) (hb : InB b) (hl : b.length ≤ 1048576) (hs : ∀ x ∈ l, x.size ≤ bigB) (ht : t.length ≤ 9223372036854775807) :
    ∃ r, Ev (fun k => spec_MirrorOk.f k i l n s b u c z t) r ∧ Ev (fun k => impl_MirrorOk.f k i l n s b u c z t) r := by
  obtain ⟨q, q1, q2⟩ := storeOk_both l n s b u hb hl hs
  have k1 := spec_Known_ev t c z ht
  have k2 := impl_known_ev t c z ht
  have k3 := spec_Known_ev t n s ht
  have k4 := impl_known_ev t n s ht
  refine ⟨decide (0 ≤ i ∧ i ≤ 20) && (headOk c z && (isKnown t c z && (isKnown t n s && q))), ?_, ?_⟩
  · unfold spec_MirrorOk.f
    refine Ev.bind (Ev.const (spec_in_eq _ _ _)) ?_
    by_cases h : decide (0 ≤ i ∧ i ≤ 20) = true
    · rw [h]
      refine Ev.pos rfl (Ev.bind q1 ?_)
      cases q with
      | false => exact Ev.neg (by simp) (Ev.one (Ev.now _) (by simp))
      | true =>
        refine Ev.pos rfl (Ev.bind (Ev.const (spec_HeadOk_eq c z)) ?_)
        by_cases h2 : headOk c z = true
        · rw [h2]
          refine Ev.pos rfl (Ev.bind k1 ?_)
          by_cases h3 : isKnown t c z = true
          · rw [h3]
            exact Ev.pos rfl (Ev.bind k3 (Ev.one (Ev.now _) (by simp)))
          · rw [Bool.eq_false_iff.mpr h3]
            exact Ev.neg (by simp) (Ev.one (Ev.now _) (by simp))
        · rw [Bool.eq_false_iff.mpr h2]
          exact Ev.neg (by simp) (Ev.one (Ev.now _) (by simp))
    · rw [Bool.eq_false_iff.mpr h]
      exact Ev.neg (by simp) (Ev.one (Ev.now _) (by simp))
  · unfold impl_MirrorOk.f
    refine Ev.bind (Ev.const (isId_eq _)) ?_
    by_cases h : decide (0 ≤ i ∧ i ≤ 20) = true
    · rw [h]
      refine Ev.pos rfl (Ev.bind (Ev.const (impl_HeadOk_eq c z)) ?_)
      by_cases h2 : headOk c z = true
      · rw [h2]
        refine Ev.pos rfl (Ev.bind k2 ?_)
        by_cases h3 : isKnown t c z = true
        · rw [h3]
          refine Ev.pos rfl (Ev.bind k4 ?_)
          by_cases h4 : isKnown t n s = true
          · rw [h4]
            exact Ev.pos rfl (Ev.bind q2 (Ev.one (Ev.now _) (by simp)))
          · rw [Bool.eq_false_iff.mpr h4]
            exact Ev.neg (by simp) (Ev.one (Ev.now _) (by simp))
        · rw [Bool.eq_false_iff.mpr h3]
          exact Ev.neg (by simp) (Ev.one (Ev.now _) (by simp))
      · rw [Bool.eq_false_iff.mpr h2]
        exact Ev.neg (by simp) (Ev.one (Ev.now _) (by simp))
    · rw [Bool.eq_false_iff.mpr h]
      exact Ev.neg (by simp) (Ev.one (Ev.now _) (by simp))
end Go.Proofs.Ytjnnglphdaemaaa.Q
end

section
-- Written by a program of this session (wip/tools/pp.sh) over the print of the kit.
namespace Go.Proofs.Ytjnnglphdaemaaa.Q
open Go.RowKit Go.Proofs.YtjnnglphdaemaaaW.PrintWords Go.Proofs.YtjnnglphdaemaaaW.PrintLast Go.Proofs.YtjnnglphdaemaaaW.PrintMore
attribute [local go_sem] max2_int min2_int max_two min_two max_three min_three max_four min_four   -- for this text's walks alone
set_option linter.unusedVariables false
set_option linter.unusedSimpArgs false
def laws_FnExactMirrorOk.f (k : Nat) (a0_0 : Int) (l0_1 : List ByteArray) (a0_2 : Int) (a0_3 : ByteArray) (l0_4 : List Int) (a0_5 : Int) (a0_6 : Int) (a0_7 : ByteArray) (l1 : List (S47)) : Option (Bool) := (laws_szMirror.f k a0_0 l0_1 a0_2 a0_3 l0_4 a0_5 a0_6 a0_7 1048576).bind fun t602 => (if t602 < 0 then (some true) else ((laws_szHeadS.f k l1 t602).bind fun t603 => (if t603 < 0 then (some true) else ((laws_toMirror.f k a0_0 l0_1 a0_2 a0_3 l0_4 a0_5 a0_6 a0_7).bind fun bt604 => ((laws_toHeadS.f k l1).bind fun t616 => ((spec_MirrorOk.f k bt604.1 bt604.2.1 bt604.2.2.1 bt604.2.2.2.1 bt604.2.2.2.2.1 bt604.2.2.2.2.2.1 bt604.2.2.2.2.2.2.1 bt604.2.2.2.2.2.2.2 t616).bind fun t619 => ((laws_toMirror.f k a0_0 l0_1 a0_2 a0_3 l0_4 a0_5 a0_6 a0_7).bind fun bt620 => ((laws_toHeadS.f k l1).bind fun t633 => ((impl_MirrorOk.f k bt620.1 bt620.2.1 bt620.2.2.1 bt620.2.2.2.1 bt620.2.2.2.2.1 bt620.2.2.2.2.2.1 bt620.2.2.2.2.2.2.1 bt620.2.2.2.2.2.2.2 t633).bind fun t636 => (if (t636 != t619) = true then (none) else ((laws_toMirror.f k a0_0 l0_1 a0_2 a0_3 l0_4 a0_5 a0_6 a0_7).bind fun bt637 => ((laws_eqMirror.f k bt620.1 bt620.2.1 bt620.2.2.1 bt620.2.2.2.1 bt620.2.2.2.2.1 bt620.2.2.2.2.2.1 bt620.2.2.2.2.2.2.1 bt620.2.2.2.2.2.2.2 bt637.1 bt637.2.1 bt637.2.2.1 bt637.2.2.2.1 bt637.2.2.2.2.1 bt637.2.2.2.2.2.1 bt637.2.2.2.2.2.2.1 bt637.2.2.2.2.2.2.2).bind fun t649 => (if t649 = true then ((laws_toHeadS.f k l1).bind fun t650 => ((laws_eqHeadS.f k t633 t650).bind fun t653 => (if t653 = true then (some true) else (none)))) else (none))))))))))))))
theorem laws_FnExactMirrorOk.mono : ∀ a0 a1 a2 a3 a4 a5 a6 a7 a8 k, LeO (laws_FnExactMirrorOk.f k a0 a1 a2 a3 a4 a5 a6 a7 a8) (laws_FnExactMirrorOk.f (k + 1) a0 a1 a2 a3 a4 a5 a6 a7 a8) := by
 intro a0 a1 a2 a3 a4 a5 a6 a7 a8 k
 unfold laws_FnExactMirrorOk.f
 repeat' (with_reducible first | exact LeO.refl _ | exact LeO.none _ | apply impl_MirrorOk.mono | apply laws_eqHeadS.mono | apply laws_eqMirror.mono | apply laws_szHeadS.mono | apply laws_szMirror.mono | apply laws_toHeadS.mono | apply laws_toMirror.mono | apply spec_MirrorOk.mono | apply LeO.ite | refine LeO.bind ?_ fun _ => ?_)
set_option maxHeartbeats 8000000 in
set_option maxRecDepth 100000 in
theorem laws_FnExactMirrorOk.calls (k : Nat) (a0_0 : Int) (A0_1 : Option Addr) (c0_1 : Nat) (l0_1 : List ByteArray) (a0_2 : Int) (a0_3 : ByteArray) (A0_4 : Option Addr) (c0_4 : Nat) (l0_4 : List Int) (a0_5 : Int) (a0_6 : Int) (a0_7 : ByteArray) (A1 : Option Addr) (c1 : Nat) (l1 : List (S47)) (r : Bool) (w : World) (hr0_1 : Kd.C Kd.string w A0_1 l0_1.length l0_1) (hc0_1 : l0_1.length ≤ c0_1) (hr0_4 : Kd.C (Kd.int .u8) w A0_4 l0_4.length l0_4) (hc0_4 : l0_4.length ≤ c0_4) (hr1 : Kd.C k47 w A1 l1.length l1) (hc1 : l1.length ≤ c1) (h : laws_FnExactMirrorOk.f k a0_0 l0_1 a0_2 a0_3 l0_4 a0_5 a0_6 a0_7 l1 = some r) :
  Calls Try.prog 8 #[.agg #[.int .i64 a0_0, .slice A0_1 l0_1.length c0_1, .int .i64 a0_2, .string a0_3, .slice A0_4 l0_4.length c0_4, .int .i64 a0_5, .int .i64 a0_6, .string a0_7], .slice A1 l1.length c1] w fun e w' => e = .returned (.bool r) ∧ Below w.heap.size w w' := by
 have hu78 := Try.underlying78
 have hu82 := Try.underlying82
 have HR0_1 := Aside0.mk hr0_1
 have HC0_1 := Aside0.mk hc0_1
 clear hr0_1 hc0_1
 have HR0_4 := Aside0.mk hr0_4
 have HC0_4 := Aside0.mk hc0_4
 clear hr0_4 hc0_4
 have HR1 := Aside0.mk hr1
 have HC1 := Aside0.mk hc1
 clear hr1 hc1
 have HB := Aside0.mk (Below.refl w.heap.size w)
 have H : ((laws_szMirror.f k a0_0 l0_1 a0_2 a0_3 l0_4 a0_5 a0_6 a0_7 1048576).bind fun t602 => (if t602 < 0 then (some true) else ((laws_szHeadS.f k l1 t602).bind fun t603 => (if t603 < 0 then (some true) else ((laws_toMirror.f k a0_0 l0_1 a0_2 a0_3 l0_4 a0_5 a0_6 a0_7).bind fun bt604 => ((laws_toHeadS.f k l1).bind fun t616 => ((spec_MirrorOk.f k bt604.1 bt604.2.1 bt604.2.2.1 bt604.2.2.2.1 bt604.2.2.2.2.1 bt604.2.2.2.2.2.1 bt604.2.2.2.2.2.2.1 bt604.2.2.2.2.2.2.2 t616).bind fun t619 => ((laws_toMirror.f k a0_0 l0_1 a0_2 a0_3 l0_4 a0_5 a0_6 a0_7).bind fun bt620 => ((laws_toHeadS.f k l1).bind fun t633 => ((impl_MirrorOk.f k bt620.1 bt620.2.1 bt620.2.2.1 bt620.2.2.2.1 bt620.2.2.2.2.1 bt620.2.2.2.2.2.1 bt620.2.2.2.2.2.2.1 bt620.2.2.2.2.2.2.2 t633).bind fun t636 => (if (t636 != t619) = true then (none) else ((laws_toMirror.f k a0_0 l0_1 a0_2 a0_3 l0_4 a0_5 a0_6 a0_7).bind fun bt637 => ((laws_eqMirror.f k bt620.1 bt620.2.1 bt620.2.2.1 bt620.2.2.2.1 bt620.2.2.2.2.1 bt620.2.2.2.2.2.1 bt620.2.2.2.2.2.2.1 bt620.2.2.2.2.2.2.2 bt637.1 bt637.2.1 bt637.2.2.1 bt637.2.2.2.1 bt637.2.2.2.2.1 bt637.2.2.2.2.2.1 bt637.2.2.2.2.2.2.1 bt637.2.2.2.2.2.2.2).bind fun t649 => (if t649 = true then ((laws_toHeadS.f k l1).bind fun t650 => ((laws_eqHeadS.f k t633 t650).bind fun t653 => (if t653 = true then (some true) else (none)))) else (none))))))))))))))) = some r := h
 clear h
 replace H := bi_ H; obtain ⟨t602, A3, H⟩ := H
 replace H := itd_ H; obtain ⟨c4b0, H⟩ | ⟨c4b0, H⟩ := H
 ·obtain rfl := Option.some.inj H
  go_enter Try.func8, Try.ntmps8
  go_wp2_with (first | ((with_reducible refine gd_ 2 ?_); refine bx_ 2 78 #[.int .i64 a0_0, .slice A0_1 l0_1.length c0_1, .int .i64 a0_2, .string a0_3, .slice A0_4 l0_4.length c0_4, .int .i64 a0_5, .int .i64 a0_6, .string a0_7] ?_; intro gb601 hg w5 hbox hb; have BK601 := Aside0.mk hbox; have GW601 := gg_ hg HB; have GE601 := GW601; replace HB := ss_ HB hb; clear hb hbox hg; have hcz6_0 := bc0_ BK601.out; have hcz6_1 := bc1_ BK601.out; have hcz6_2 := bc2_ BK601.out; have hcz6_3 := bc3_ BK601.out; have hcz6_4 := bc4_ BK601.out; have hcz6_5 := bc5_ BK601.out; have hcz6_6 := bc6_ BK601.out; have hcz6_7 := bc7_ BK601.out; have hfz6_0 := blk_frozen BK601.out 0; have hfz6_1 := blk_frozen BK601.out 1; have hfz6_2 := blk_frozen BK601.out 2; have hfz6_3 := blk_frozen BK601.out 3; have hfz6_4 := blk_frozen BK601.out 4; have hfz6_5 := blk_frozen BK601.out 5; have hfz6_6 := blk_frozen BK601.out 6; have hfz6_7 := blk_frozen BK601.out 7) | ((with_reducible refine gq_ 50 12 ?_); refine gc_ 12 Try.func50 (laws_szMirror.calls k a0_0 _ _ l0_1 a0_2 a0_3 _ _ l0_4 a0_5 a0_6 a0_7 1048576 t602 _ (cb_ HR0_1 HB) HC0_1.out (cb_ HR0_4 HB) HC0_4.out A3.out) ?_; rintro e w7 ⟨rfl, hb⟩; refine ⟨_, rfl, ?_⟩; replace BK601 := kl_ BK601 hb; replace HB := ss_ HB hb; clear hb))
  go_ret
  exact ⟨e2_, bw_ HB⟩
 ·replace H := bi_ H; obtain ⟨t603, A8, H⟩ := H
  replace H := itd_ H; obtain ⟨c9b0, H⟩ | ⟨c9b0, H⟩ := H
  ·obtain rfl := Option.some.inj H
   go_enter Try.func8, Try.ntmps8
   go_wp2_with (first | ((with_reducible refine gd_ 2 ?_); refine bx_ 2 78 #[.int .i64 a0_0, .slice A0_1 l0_1.length c0_1, .int .i64 a0_2, .string a0_3, .slice A0_4 l0_4.length c0_4, .int .i64 a0_5, .int .i64 a0_6, .string a0_7] ?_; intro gb601 hg w10 hbox hb; have BK601 := Aside0.mk hbox; have GW601 := gg_ hg HB; have GE601 := GW601; replace HB := ss_ HB hb; clear hb hbox hg; have hcz11_0 := bc0_ BK601.out; have hcz11_1 := bc1_ BK601.out; have hcz11_2 := bc2_ BK601.out; have hcz11_3 := bc3_ BK601.out; have hcz11_4 := bc4_ BK601.out; have hcz11_5 := bc5_ BK601.out; have hcz11_6 := bc6_ BK601.out; have hcz11_7 := bc7_ BK601.out; have hfz11_0 := blk_frozen BK601.out 0; have hfz11_1 := blk_frozen BK601.out 1; have hfz11_2 := blk_frozen BK601.out 2; have hfz11_3 := blk_frozen BK601.out 3; have hfz11_4 := blk_frozen BK601.out 4; have hfz11_5 := blk_frozen BK601.out 5; have hfz11_6 := blk_frozen BK601.out 6; have hfz11_7 := blk_frozen BK601.out 7) | ((with_reducible refine gq_ 50 12 ?_); refine gc_ 12 Try.func50 (laws_szMirror.calls k a0_0 _ _ l0_1 a0_2 a0_3 _ _ l0_4 a0_5 a0_6 a0_7 1048576 t602 _ (cb_ HR0_1 HB) HC0_1.out (cb_ HR0_4 HB) HC0_4.out A3.out) ?_; rintro e w12 ⟨rfl, hb⟩; refine ⟨_, rfl, ?_⟩; replace BK601 := kl_ BK601 hb; replace HB := ss_ HB hb; clear hb) | ((with_reducible refine gq_ 24 17 ?_); refine gc_ 17 Try.func24 (laws_szHeadS.calls k _ _ l1 t602 t603 _ (cb_ HR1 HB) HC1.out A8.out) ?_; rintro e w13 ⟨rfl, hb⟩; refine ⟨_, rfl, ?_⟩; replace BK601 := kl_ BK601 hb; replace HB := ss_ HB hb; clear hb))
   go_ret
   exact ⟨e2_, bw_ HB⟩
  ·replace H := bi_ H; obtain ⟨⟨t604, t605, t608, t609, t610, t613, t614, t615⟩, A14, H⟩ := H
   dsimp only at H
   replace H := bi_ H; obtain ⟨t616, A15, H⟩ := H
   replace H := bi_ H; obtain ⟨t619, A16, H⟩ := H
   replace H := bi_ H; obtain ⟨⟨t620, t621, t624, t625, t626, t629, t630, t631⟩, A17, H⟩ := H
   dsimp only at H
   replace H := bi_ H; obtain ⟨t633, A18, H⟩ := H
   replace H := bi_ H; obtain ⟨t636, A19, H⟩ := H
   replace H := in_ H; obtain ⟨c20, H⟩ := H
   have c20b0 : (t636 != t619) = false := by simpa using c20
   (try (have c20b1 : decide (t636 = t619) = true := by simpa using c20))
   (try (have c20b2 : (t636 == t619) = true := by simpa using c20))
   clear c20
   replace H := bi_ H; obtain ⟨⟨t637, t638, t641, t642, t643, t646, t647, t648⟩, A21, H⟩ := H
   dsimp only at H
   replace H := bi_ H; obtain ⟨t649, A22, H⟩ := H
   replace H := ipb_ H; obtain ⟨rfl, H⟩ := H
   replace H := bi_ H; obtain ⟨t650, A24, H⟩ := H
   replace H := bi_ H; obtain ⟨t653, A25, H⟩ := H
   replace H := ipb_ H; obtain ⟨rfl, H⟩ := H
   obtain rfl := Option.some.inj H
   go_enter Try.func8, Try.ntmps8
   try go_wp2_with (first | ((with_reducible refine gd_ 2 ?_); refine bx_ 2 78 #[.int .i64 a0_0, .slice A0_1 l0_1.length c0_1, .int .i64 a0_2, .string a0_3, .slice A0_4 l0_4.length c0_4, .int .i64 a0_5, .int .i64 a0_6, .string a0_7] ?_; intro gb601 hg w27 hbox hb; have BK601 := Aside0.mk hbox; have GW601 := gg_ hg HB; have GE601 := GW601; replace HB := ss_ HB hb; clear hb hbox hg; have hcz28_0 := bc0_ BK601.out; have hcz28_1 := bc1_ BK601.out; have hcz28_2 := bc2_ BK601.out; have hcz28_3 := bc3_ BK601.out; have hcz28_4 := bc4_ BK601.out; have hcz28_5 := bc5_ BK601.out; have hcz28_6 := bc6_ BK601.out; have hcz28_7 := bc7_ BK601.out; have hfz28_0 := blk_frozen BK601.out 0; have hfz28_1 := blk_frozen BK601.out 1; have hfz28_2 := blk_frozen BK601.out 2; have hfz28_3 := blk_frozen BK601.out 3; have hfz28_4 := blk_frozen BK601.out 4; have hfz28_5 := blk_frozen BK601.out 5; have hfz28_6 := blk_frozen BK601.out 6; have hfz28_7 := blk_frozen BK601.out 7) | ((with_reducible refine gq_ 50 12 ?_); refine gc_ 12 Try.func50 (laws_szMirror.calls k a0_0 _ _ l0_1 a0_2 a0_3 _ _ l0_4 a0_5 a0_6 a0_7 1048576 t602 _ (cb_ HR0_1 HB) HC0_1.out (cb_ HR0_4 HB) HC0_4.out A3.out) ?_; rintro e w29 ⟨rfl, hb⟩; refine ⟨_, rfl, ?_⟩; replace BK601 := kl_ BK601 hb; replace HB := ss_ HB hb; clear hb) | ((with_reducible refine gq_ 24 17 ?_); refine gc_ 17 Try.func24 (laws_szHeadS.calls k _ _ l1 t602 t603 _ (cb_ HR1 HB) HC1.out A8.out) ?_; rintro e w30 ⟨rfl, hb⟩; refine ⟨_, rfl, ?_⟩; replace BK601 := kl_ BK601 hb; replace HB := ss_ HB hb; clear hb; have hcz31_0 := bc0_ BK601.out; have hcz31_1 := bc1_ BK601.out; have hcz31_2 := bc2_ BK601.out; have hcz31_3 := bc3_ BK601.out; have hcz31_4 := bc4_ BK601.out; have hcz31_5 := bc5_ BK601.out; have hcz31_6 := bc6_ BK601.out; have hcz31_7 := bc7_ BK601.out; have hfz31_0 := blk_frozen BK601.out 0; have hfz31_1 := blk_frozen BK601.out 1; have hfz31_2 := blk_frozen BK601.out 2; have hfz31_3 := blk_frozen BK601.out 3; have hfz31_4 := blk_frozen BK601.out 4; have hfz31_5 := blk_frozen BK601.out 5; have hfz31_6 := blk_frozen BK601.out 6; have hfz31_7 := blk_frozen BK601.out 7) | ((with_reducible refine gq_ 52 21 ?_); refine gc_ 21 Try.func52 (laws_toMirror.calls k a0_0 _ _ l0_1 a0_2 a0_3 _ _ l0_4 a0_5 a0_6 a0_7 t604 t605 t608 t609 t610 t613 t614 t615 _ (cb_ HR0_1 HB) HC0_1.out (cb_ HR0_4 HB) HC0_4.out A14.out) ?_; rintro e w32 ⟨v606, v611, rfl, ho0, ho1, hb⟩; refine ⟨_, rfl, ?_⟩; have HO607 := Aside0.mk (Kd.R_lower ho0 (sz_ HB)); have HO612 := Aside0.mk (Kd.R_lower ho1 (sz_ HB)); replace BK601 := kl_ BK601 hb; replace HB := ss_ HB hb; clear hb ho0 ho1) | ((with_reducible refine gq_ 28 23 ?_); refine gc_ 23 Try.func28 (laws_toHeadS.calls k _ _ l1 t616 _ (cb_ HR1 HB) HC1.out A15.out) ?_; rintro e w33 ⟨v617, rfl, ho0, hb⟩; refine ⟨_, rfl, ?_⟩; replace HO607 := rb_ HO607 hb; replace HO612 := rb_ HO612 hb; have HO618 := Aside0.mk (Kd.R_lower ho0 (sz_ HB)); replace BK601 := kl_ BK601 hb; replace HB := ss_ HB hb; clear hb ho0; obtain ⟨Ao34, co34, eo34⟩ := Kd.R_slice HO607.out; subst eo34; obtain ⟨Ao35, co35, eo35⟩ := Kd.R_slice HO612.out; subst eo35; obtain ⟨Ao36, co36, eo36⟩ := Kd.R_slice HO618.out; subst eo36) | ((with_reducible refine gq_ 51 24 ?_); refine gc_ 24 Try.func51 (spec_MirrorOk.calls k t604 _ _ t605 t608 t609 _ _ t610 t613 t614 t615 _ _ t616 t619 _ (ch_ HO607) (cl_ HO607) (ch_ HO612) (cl_ HO612) (ch_ HO618) (cl_ HO618) A16.out) ?_; rintro e w37 ⟨rfl, hb⟩; refine ⟨_, rfl, ?_⟩; replace HO607 := rb_ HO607 hb; replace HO612 := rb_ HO612 hb; replace HO618 := rb_ HO618 hb; replace BK601 := kl_ BK601 hb; replace HB := ss_ HB hb; clear hb; have hcz38_0 := bc0_ BK601.out; have hcz38_1 := bc1_ BK601.out; have hcz38_2 := bc2_ BK601.out; have hcz38_3 := bc3_ BK601.out; have hcz38_4 := bc4_ BK601.out; have hcz38_5 := bc5_ BK601.out; have hcz38_6 := bc6_ BK601.out; have hcz38_7 := bc7_ BK601.out; have hfz38_0 := blk_frozen BK601.out 0; have hfz38_1 := blk_frozen BK601.out 1; have hfz38_2 := blk_frozen BK601.out 2; have hfz38_3 := blk_frozen BK601.out 3; have hfz38_4 := blk_frozen BK601.out 4; have hfz38_5 := blk_frozen BK601.out 5; have hfz38_6 := blk_frozen BK601.out 6; have hfz38_7 := blk_frozen BK601.out 7) | ((with_reducible refine gq_ 52 26 ?_); refine gc_ 26 Try.func52 (laws_toMirror.calls k a0_0 _ _ l0_1 a0_2 a0_3 _ _ l0_4 a0_5 a0_6 a0_7 t620 t621 t624 t625 t626 t629 t630 t631 _ (cb_ HR0_1 HB) HC0_1.out (cb_ HR0_4 HB) HC0_4.out A17.out) ?_; rintro e w39 ⟨v622, v627, rfl, ho0, ho1, hb⟩; refine ⟨_, rfl, ?_⟩; replace HO618 := rb_ HO618 hb; have HO623 := Aside0.mk (Kd.R_lower (Kd.R_new' ho0 (lt_ HO607)) (sz_ HB)); replace HO607 := re_ HO607 ho0 hb; have HO628 := Aside0.mk (Kd.R_lower (Kd.R_new' ho1 (lt_ HO612)) (sz_ HB)); replace HO612 := re_ HO612 ho1 hb; replace BK601 := kl_ BK601 hb; replace HB := ss_ HB hb; clear hb ho0 ho1) | ((with_reducible refine gd_ 7 ?_); refine bx_ 7 82 #[.int .i64 0, .slice none 0 0, .int .i64 0, .string (⟨#[]⟩ : ByteArray), .slice none 0 0, .int .i64 0, .int .i64 0, .string (⟨#[]⟩ : ByteArray)] ?_; intro gb632 hg w40 hbox hb; replace HO607 := rb_ HO607 hb; replace HO612 := rb_ HO612 hb; replace HO618 := rb_ HO618 hb; replace HO623 := rb_ HO623 hb; replace HO628 := rb_ HO628 hb; have BK632 := Aside0.mk hbox; have GW632 := gg_ hg HB; have GE632 := GW632; replace HB := ss_ HB hb; have NB601_632 := nla_ hg BK601; have NB632_601 := nga_ hg BK601; replace BK601 := kl_ BK601 hb; clear hb hbox hg; have hnb41 := NB632_601.out; have hnc41 := NB601_632.out; have hcz42_0 := bc0_ BK632.out; have hcz42_1 := bc1_ BK632.out; have hcz42_2 := bc2_ BK632.out; have hcz42_3 := bc3_ BK632.out; have hcz42_4 := bc4_ BK632.out; have hcz42_5 := bc5_ BK632.out; have hcz42_6 := bc6_ BK632.out; have hcz42_7 := bc7_ BK632.out; have hfz42_0 := blk_frozen BK632.out 0; have hfz42_1 := blk_frozen BK632.out 1; have hfz42_2 := blk_frozen BK632.out 2; have hfz42_3 := blk_frozen BK632.out 3; have hfz42_4 := blk_frozen BK632.out 4; have hfz42_5 := blk_frozen BK632.out 5; have hfz42_6 := blk_frozen BK632.out 6; have hfz42_7 := blk_frozen BK632.out 7; obtain ⟨Ao43, co43, eo43⟩ := Kd.R_slice HO623.out; subst eo43; obtain ⟨Ao44, co44, eo44⟩ := Kd.R_slice HO628.out; subst eo44) | ((with_reducible refine gq_ 28 28 ?_); refine gc_ 28 Try.func28 (laws_toHeadS.calls k _ _ l1 t633 _ (Kd.C_below HR1.out (bw_ HB)) HC1.out A18.out) ?_; rintro e w45 ⟨v634, rfl, ho0, hb⟩; refine ⟨_, rfl, ?_⟩; replace HO607 := rbf_ HO607 BK632 hb; replace HO612 := rbf_ HO612 BK632 hb; replace HO623 := rbf_ HO623 BK632 hb; replace HO628 := rbf_ HO628 BK632 hb; have HO635 := Aside0.mk (Kd.R_lower (Kd.R_new' ho0 (lf_ HO618 BK632)) (sz_ HB)); replace HO618 := ref_ HO618 BK632 ho0 hb; replace BK601 := kp_ BK601 hb; replace BK632 := kp_ BK632 hb; replace HB := ss_ HB hb; clear hb ho0; have hcz46_0 := bc0_ BK632.out; have hcz46_1 := bc1_ BK632.out; have hcz46_2 := bc2_ BK632.out; have hcz46_3 := bc3_ BK632.out; have hcz46_4 := bc4_ BK632.out; have hcz46_5 := bc5_ BK632.out; have hcz46_6 := bc6_ BK632.out; have hcz46_7 := bc7_ BK632.out; have hfz46_0 := blk_frozen BK632.out 0; have hfz46_1 := blk_frozen BK632.out 1; have hfz46_2 := blk_frozen BK632.out 2; have hfz46_3 := blk_frozen BK632.out 3; have hfz46_4 := blk_frozen BK632.out 4; have hfz46_5 := blk_frozen BK632.out 5; have hfz46_6 := blk_frozen BK632.out 6; have hfz46_7 := blk_frozen BK632.out 7; obtain ⟨Ao47, co47, eo47⟩ := Kd.R_slice HO635.out; subst eo47) | ((with_reducible refine gq_ 53 31 ?_); refine gc_ 31 Try.func53 (impl_MirrorOk.calls k t620 _ _ t621 t624 t625 _ _ t626 t629 t630 t631 _ _ t633 t636 _ (ch_ HO623) (cl_ HO623) (ch_ HO628) (cl_ HO628) (ch_ HO635) (cl_ HO635) A19.out) ?_; rintro e w48 ⟨rfl, hb⟩; refine ⟨_, rfl, ?_⟩; replace HO607 := rb_ HO607 hb; replace HO612 := rb_ HO612 hb; replace HO618 := rb_ HO618 hb; replace HO623 := rb_ HO623 hb; replace HO628 := rb_ HO628 hb; replace HO635 := rb_ HO635 hb; replace BK601 := kl_ BK601 hb; replace BK632 := kl_ BK632 hb; replace HB := ss_ HB hb; clear hb))
   replace HO607 := Aside0.mk (Kd.R_drew HO607.out)
   replace HO612 := Aside0.mk (Kd.R_drew HO612.out)
   replace HO618 := Aside0.mk (Kd.R_drew HO618.out)
   replace HO623 := Aside0.mk (Kd.R_drew HO623.out)
   replace HO628 := Aside0.mk (Kd.R_drew HO628.out)
   replace HO635 := Aside0.mk (Kd.R_drew HO635.out)
   replace BK601 := Aside0.mk (blk_drew BK601.out)
   replace BK632 := Aside0.mk (blk_drew BK632.out)
   replace HB := Aside0.mk (below_drew1 HB.out)
   refine start_ (n := 5) (S := fun w' => w'.cell? ⟨gb632, 0, none⟩ = some (.int .i64 t620) ∧ w'.cell? ⟨gb632, 1, none⟩ = some (.slice Ao43 t621.length co43) ∧ w'.cell? ⟨gb632, 2, none⟩ = some (.int .i64 t624) ∧ w'.cell? ⟨gb632, 3, none⟩ = some (.string t625) ∧ w'.cell? ⟨gb632, 4, none⟩ = some (.slice Ao44 t626.length co44) ∧ w'.cell? ⟨gb632, 5, none⟩ = some (.int .i64 t629) ∧ w'.cell? ⟨gb632, 6, none⟩ = some (.int .i64 t630) ∧ w'.cell? ⟨gb632, 7, none⟩ = some (.string t631) ∧ w'.cell? ⟨gb601, 0, none⟩ = some (.int .i64 a0_0) ∧ w'.cell? ⟨gb601, 1, none⟩ = some (.slice A0_1 l0_1.length c0_1) ∧ w'.cell? ⟨gb601, 2, none⟩ = some (.int .i64 a0_2) ∧ w'.cell? ⟨gb601, 3, none⟩ = some (.string a0_3) ∧ w'.cell? ⟨gb601, 4, none⟩ = some (.slice A0_4 l0_4.length c0_4) ∧ w'.cell? ⟨gb601, 5, none⟩ = some (.int .i64 a0_5) ∧ w'.cell? ⟨gb601, 6, none⟩ = some (.int .i64 a0_6) ∧ w'.cell? ⟨gb601, 7, none⟩ = some (.string a0_7)) (ds := []) (lz_ 5 0) (by kernel_rfl) rfl rfl ⟨bc0_ BK632.out, bc1_ BK632.out, bc2_ BK632.out, bc3_ BK632.out, bc4_ BK632.out, bc5_ BK632.out, bc6_ BK632.out, bc7_ BK632.out, bc0_ BK601.out, bc1_ BK601.out, bc2_ BK601.out, bc3_ BK601.out, bc4_ BK601.out, bc5_ BK601.out, bc6_ BK601.out, bc7_ BK601.out⟩ (fun hHeld => ?_)
   generalize w48.drew = w49 at HO607 HO612 HO618 HO623 HO628 HO635 BK601 BK632 HB hHeld ⊢
   refine tk_ 0 35 1 ?_
   refine tk_ 1 36 3 ?_
   refine one_ (i := 2) (N := some 37) (lz_ 5 7) rfl rfl (by kernel_rfl) (by decide) (fun K hK => ?_)
   refine ge_ Try.func52 #[.agg #[.int .i64 a0_0, .slice A0_1 l0_1.length c0_1, .int .i64 a0_2, .string a0_3, .slice A0_4 l0_4.length c0_4, .int .i64 a0_5, .int .i64 a0_6, .string a0_7]] ?_
   with_reducible refine (laws_toMirror.calls k a0_0 _ _ l0_1 a0_2 a0_3 _ _ l0_4 a0_5 a0_6 a0_7 t637 t638 t641 t642 t643 t646 t647 t648 _ ?side1 ?side2 ?side3 ?side4 A21.out).mono ?_
   (case side1 => exact cb_ HR0_1 HB)
   (case side2 => exact HC0_1.out)
   (case side3 => exact cb_ HR0_4 HB)
   (case side4 => exact HC0_4.out)
   rintro e w50 ⟨v639, v644, rfl, ho0, ho1, hb⟩
   refine ⟨_, rfl, ?_⟩
   replace HO618 := rb_ HO618 hb
   replace HO635 := rb_ HO635 hb
   have HO640 := Aside0.mk (Kd.R_lower (Kd.R_new' (Kd.R_new' ho0 (lt_ HO607)) (lt_ HO623)) (sz_ HB))
   replace HO607 := re_ HO607 ho0 hb
   replace HO623 := re_ HO623 ho0 hb
   have HO645 := Aside0.mk (Kd.R_lower (Kd.R_new' (Kd.R_new' ho1 (lt_ HO612)) (lt_ HO628)) (sz_ HB))
   replace HO612 := re_ HO612 ho1 hb
   replace HO628 := re_ HO628 ho1 hb
   replace BK601 := kl_ BK601 hb
   replace BK632 := kl_ BK632 hb
   replace HB := ss_ HB hb
   clear hb ho0 ho1
   obtain ⟨Ao51, co51, eo51⟩ := Kd.R_slice HO640.out
   (first | subst eo51 | (injection eo51 with f1_ f2_ f3_; have f4_ := f1_.symm; have f5_ := f3_.symm; clear f1_ f2_ f3_; subst f4_; subst f5_))
   obtain ⟨Ao52, co52, eo52⟩ := Kd.R_slice HO645.out
   (first | subst eo52 | (injection eo52 with f1_ f2_ f3_; have f4_ := f1_.symm; have f5_ := f3_.symm; clear f1_ f2_ f3_; subst f4_; subst f5_))
   refine hK.out _ _ ⟨bc0_ BK632.out, bc1_ BK632.out, bc2_ BK632.out, bc3_ BK632.out, bc4_ BK632.out, bc5_ BK632.out, bc6_ BK632.out, bc7_ BK632.out, bc0_ BK601.out, bc1_ BK601.out, bc2_ BK601.out, bc3_ BK601.out, bc4_ BK601.out, bc5_ BK601.out, bc6_ BK601.out, bc7_ BK601.out⟩ (fun hHeld => ?_)
   clear hK K
   refine no_ 37 ?_
   refine one_ (i := 3) (N := some 38) (lz_ 5 15) rfl rfl (by kernel_rfl) (by decide) (fun K hK => ?_)
   refine ge_ Try.func54 #[.agg #[.int .i64 t620, .slice Ao43 t621.length co43, .int .i64 t624, .string t625, .slice Ao44 t626.length co44, .int .i64 t629, .int .i64 t630, .string t631], .agg #[.int .i64 t637, .slice Ao51 t638.length co51, .int .i64 t641, .string t642, .slice Ao52 t643.length co52, .int .i64 t646, .int .i64 t647, .string t648]] ?_
   with_reducible refine (laws_eqMirror.calls k t620 _ _ t621 t624 t625 _ _ t626 t629 t630 t631 t637 _ _ t638 t641 t642 _ _ t643 t646 t647 t648 true _ ?side1 ?side2 ?side3 ?side4 ?side5 ?side6 ?side7 ?side8 A22.out).mono ?_
   (case side1 => exact ch_ HO623)
   (case side2 => exact (cl_ HO623))
   (case side3 => exact ch_ HO628)
   (case side4 => exact (cl_ HO628))
   (case side5 => exact ch_ HO640)
   (case side6 => exact (cl_ HO640))
   (case side7 => exact ch_ HO645)
   (case side8 => exact (cl_ HO645))
   rintro e w53 ⟨rfl, hb⟩
   refine ⟨_, rfl, ?_⟩
   replace HO607 := rb_ HO607 hb
   replace HO612 := rb_ HO612 hb
   replace HO618 := rb_ HO618 hb
   replace HO623 := rb_ HO623 hb
   replace HO628 := rb_ HO628 hb
   replace HO635 := rb_ HO635 hb
   replace HO640 := rb_ HO640 hb
   replace HO645 := rb_ HO645 hb
   replace BK601 := kl_ BK601 hb
   replace BK632 := kl_ BK632 hb
   replace HB := ss_ HB hb
   clear hb
   refine hK.out _ _ ⟨bc0_ BK632.out, bc1_ BK632.out, bc2_ BK632.out, bc3_ BK632.out, bc4_ BK632.out, bc5_ BK632.out, bc6_ BK632.out, bc7_ BK632.out, bc0_ BK601.out, bc1_ BK601.out, bc2_ BK601.out, bc3_ BK601.out, bc4_ BK601.out, bc5_ BK601.out, bc6_ BK601.out, bc7_ BK601.out⟩ (fun hHeld => ?_)
   clear hK K
   refine no_ 38 ?_
   refine pk_ 4 39 31 ?_
   refine done_ (by kernel_rfl) ?_
   try go_wp2_with (first | ((with_reducible refine gq_ 28 42 ?_); refine gc_ 42 Try.func28 (laws_toHeadS.calls k _ _ l1 t650 _ (cb_ HR1 HB) HC1.out A24.out) ?_; rintro e w54 ⟨v651, rfl, ho0, hb⟩; refine ⟨_, rfl, ?_⟩; replace HO607 := rb_ HO607 hb; replace HO612 := rb_ HO612 hb; replace HO623 := rb_ HO623 hb; replace HO628 := rb_ HO628 hb; replace HO640 := rb_ HO640 hb; replace HO645 := rb_ HO645 hb; have HO652 := Aside0.mk (Kd.R_lower (Kd.R_new' (Kd.R_new' ho0 (lt_ HO618)) (lt_ HO635)) (sz_ HB)); replace HO618 := re_ HO618 ho0 hb; replace HO635 := re_ HO635 ho0 hb; replace BK601 := kl_ BK601 hb; replace BK632 := kl_ BK632 hb; replace HB := ss_ HB hb; clear hb ho0; obtain ⟨Ao55, co55, eo55⟩ := Kd.R_slice HO652.out; subst eo55) | ((with_reducible refine gq_ 32 43 ?_); refine gc_ 43 Try.func32 (laws_eqHeadS.calls k _ _ t633 _ _ t650 true _ (ch_ HO635) (cl_ HO635) (ch_ HO652) (cl_ HO652) A25.out) ?_; rintro e w56 ⟨rfl, hb⟩; refine ⟨_, rfl, ?_⟩; replace HO607 := rb_ HO607 hb; replace HO612 := rb_ HO612 hb; replace HO618 := rb_ HO618 hb; replace HO623 := rb_ HO623 hb; replace HO628 := rb_ HO628 hb; replace HO635 := rb_ HO635 hb; replace HO640 := rb_ HO640 hb; replace HO645 := rb_ HO645 hb; replace HO652 := rb_ HO652 hb; replace BK601 := kl_ BK601 hb; replace BK632 := kl_ BK632 hb; replace HB := ss_ HB hb; clear hb))
   go_ret
   exact ⟨e2_, bw_ HB⟩
end Go.Proofs.Ytjnnglphdaemaaa.Q
end

section
/- The row of the law FnExactMirrorOk out of its pure statement and the printed walk. -/
namespace Go.Proofs.Ytjnnglphdaemaaa.Q
open Go.RowKit Go.Proofs.Ytjnnglphdaemaaa.XO Go.Proofs.YtjnnglphdaemaaaW.PrintWords Go.ChangeShapes Go.WideShapes Go.ChangeAt
set_option linter.unusedVariables false
set_option linter.unusedSimpArgs false
def laws_FnExactMirrorOk.Pure : Prop := ∀ (x0 : S78) (x1 : List (S47)), G78 x0 → (x1.length ≤ 9223372036854775807 ∧ ∀ y0 ∈ x1, G47 y0) → ∃ k, laws_FnExactMirrorOk.f k x0.f0 x0.f1.f0.f0 x0.f1.f0.f1.f0 x0.f1.f0.f1.f1 x0.f1.f1 x0.f1.f2 x0.f2.f0 x0.f2.f1 x1 = some true
namespace RFnExactMirrorOk
theorem own : ownKnob Try.prog.godebug = none := by kernel_rfl
theorem laidOut : laidOutB Try.prog = true := by kernel_rfl
set_option maxRecDepth 100000 in
theorem lifted (PU : laws_FnExactMirrorOk.Pure) (os : Os) (started : os.Started) (H : Type) (enc : TypeId × Value → H) :
    ReturnsInHanded {} Try.checked os 8 .any (Rows.fnExactMirrorOkSpec.pre6 enc Try.prog Try.f8 Rows.fnExactMirrorOkRow.domain false) (Rows.fnExactMirrorOkSpec.post enc Try.prog Try.f8 false true false false) := by
  refine returnsInHanded_of_change_sized (C := Try.checked) own started (by kernel_rfl) Try.func8
    (ChangeSpec.witness6 (enc := enc) (C := Try.checked) false ⟨#[], #[.agg #[.int .i64 0, .slice none 0 0, .int .i64 0, .string ByteArray.empty, .slice none 0 0, .int .i64 0, .int .i64 0, .string ByteArray.empty], .slice none 0 0], []⟩ 8 (by kernel_rfl) (by kernel_rfl) (by kernel_rfl) (by kernel_rfl)) ?_
  intro W base args ds gs before hval0 hW hcnd hsz0 _
  have hval : ∀ (j : Nat) t v, Try.f8.params[j]? = some t → args[j]? = some v → Value.okWide Try.prog W .any base t v := hval0
  have hW' := hW
  obtain ⟨p, q, hA0, hV, rfl, hfz, hnd⟩ := hW
  have hA : DataW.TrodAll enc Try.prog W 0 (fun _ => true) true Try.f8.params.toList args.toList ds p := hA0
  rw [Try.params8] at hA hval
  obtain ⟨v0, vs0, d0, ds0, p0, q0, hargs, rfl, rfl, h0, r0⟩ := trodAll_cons hA
  obtain ⟨v1, vs1, d1, ds1, p1, q1, rfl, rfl, rfl, h1, r1⟩ := trodAll_cons r0
  obtain ⟨rfl, rfl, rfl⟩ := trodAll_nil r1
  obtain rfl : args = #[v0, v1] := by cases args; simp_all
  obtain ⟨rfl, rfl⟩ := trodVars_none hV
  have kk0 := h0
  have lt0 : ∀ x ∈ p0, x.block < W.heap.size := by obtain ⟨m, hm⟩ := kk0; exact DataW.trod_lt m _ _ _ hm
  obtain ⟨cs0, rfl, _⟩ := okWide_struct Try.underlying78 (hval 0 78 v0 rfl rfl)
  obtain ⟨fu0, hf0⟩ := h0
  obtain ⟨x0, hK0, g0⟩ := opens78 hf0
  obtain ⟨A0_1, c0_1, A0_4, c0_4, he0, hc0_1, hr0_1, hc0_4, hr0_4⟩ := k78_open hK0
  obtain rfl : cs0 = #[.int .i64 x0.f0, .slice A0_1 x0.f1.f0.f0.length c0_1, .int .i64 x0.f1.f0.f1.f0, .string x0.f1.f0.f1.f1, .slice A0_4 x0.f1.f1.length c0_4, .int .i64 x0.f1.f2, .int .i64 x0.f2.f0, .string x0.f2.f1] := by cases cs0; simpa [Value.cells] using he0
  have kk1 := h1
  have lt1 : ∀ x ∈ p1, x.block < W.heap.size := by obtain ⟨m, hm⟩ := kk1; exact DataW.trod_lt m _ _ _ hm
  obtain ⟨A1, len1, c1, rfl⟩ := okWide_slice Try.underlying50 (hval 1 50 v1 rfl rfl)
  obtain ⟨fu1, hf1⟩ := h1
  obtain ⟨x1, ⟨A1', c1', he1, hc1, hr1⟩, g1⟩ := (opens_slice Try.underlying50 (by kernel_rfl) opens47) hf1
  obtain ⟨rfl, rfl, rfl⟩ : A1 = A1' ∧ len1 = x1.length ∧ c1 = c1' := by simpa [Value.cells] using he1
  clear hA0 hval0 hsz0
  obtain ⟨k, hp⟩ := PU x0 x1 g0 g1
  refine (laws_FnExactMirrorOk.calls k x0.f0 _ _ x0.f1.f0.f0 x0.f1.f0.f1.f0 x0.f1.f0.f1.f1 _ _ x0.f1.f1 x0.f1.f2 x0.f2.f0 x0.f2.f1 _ _ x1 true W hr0_1 hc0_1 hr0_4 hc0_4 hr1 hc1 hp).mono fun e W' ⟨he, bel0⟩ => ?_
  have bel : Below W.heap.size W W' := bel0
  subst he
  exact ⟨_, rfl, _, _, _, [], _, [], hW', trodAll_mk1 (shut_bool Try.underlying4 _), (trodAll_cons_mk (Below.trod laidOut (by kernel_rfl) (of_decide_eq_true (by kernel_rfl)) kk0 bel lt0) (trodAll_cons_mk (Below.trod laidOut (by kernel_rfl) (of_decide_eq_true (by kernel_rfl)) kk1 bel lt1) trodAll_mk0)), rfl, bel.frame _, fun h => by cases h⟩
theorem over (PU : laws_FnExactMirrorOk.Pure) : Rows.fnExactMirrorOkRow.holds Try.pinned (OpenSpec.ofChange Rows.fnExactMirrorOkSpec) :=
  OpenClaim.holds_of_wide 8 Try.f8 rfl rfl rfl rfl rfl rfl rfl ⟨rfl, rfl, rfl, rfl, rfl⟩ rfl rfl rfl rfl rfl (by kernel_rfl) Try.func8 (by kernel_rfl)
    (of_decide_eq_true (by kernel_rfl)) (by unfold Func.isWrapper; first | (rw [if_pos (by decide +kernel)]; kernel_rfl) | (rw [if_neg (by decide +kernel)]; exact ⟨rfl, rfl⟩))
    (fun os started H enc _ => lifted PU os started H enc)
end RFnExactMirrorOk
theorem FnExactMirrorOk_row (PU : laws_FnExactMirrorOk.Pure) : Rows.FnExactMirrorOkSaid := RFnExactMirrorOk.over PU
end Go.Proofs.Ytjnnglphdaemaaa.Q
end

section
/- The program's MirrorOk and the reference's return the same for every mirror and list of heads; no condition. -/
namespace Go.Proofs.Ytjnnglphdaemaaa.Q
open Go.RowKit Go.Proofs.Ytjnnglphdaemaaa.B Go.Proofs.YtjnnglphdaemaaaW.PrintWords
set_option linter.unusedVariables false

theorem pure_FnExactMirrorOk : laws_FnExactMirrorOk.Pure := by
  intro x T g gT
  refine Ev.rounds (g := fun k => laws_FnExactMirrorOk.f k x.f0 x.f1.f0.f0 x.f1.f0.f1.f0 x.f1.f0.f1.f1 x.f1.f1 x.f1.f2 x.f2.f0 x.f2.f1 T) ?_
  obtain ⟨_, ⟨⟨⟨g1, g2⟩, g3, g4⟩, g5, g6⟩, g7, g8⟩ := g
  generalize x.f0 = i at *
  generalize x.f1.f0.f0 = l at *
  generalize x.f1.f0.f1.f0 = n at *
  generalize x.f1.f0.f1.f1 = s at *
  generalize x.f1.f1 = b at *
  generalize x.f1.f2 = u at *
  generalize x.f2.f0 = c at *
  generalize x.f2.f1 = z at *
  have hb : InB b := int_bytes g5.2
  unfold laws_FnExactMirrorOk.f
  obtain ⟨r, hr, hc⟩ := szMirror_ev i l n s b u c z 1048576 (by omega) (by omega) g1 g2 g4 g5.1 g8
  refine Ev.bind hr ?_
  rcases hc with hc | ⟨hc, hc1⟩
  · exact Ev.pos hc (Ev.now _)
  · have ht := total_nonneg l
    obtain ⟨r2, hr2, hc2⟩ := szHeadS_ev T r hc (by omega) gT.1 (fun y hy => (gT.2 y hy).2)
    refine Ev.neg (by omega) (Ev.bind hr2 ?_)
    rcases hc2 with hc2 | ⟨hc2, hc3, _⟩
    · exact Ev.pos hc2 (Ev.now _)
    · have hT := toMirror_ev i l n s b u c z (by omega) (by omega)
      have hH := toHeadS_ev T (by omega)
      have hs := total_small (l := l) (by omega)
      have hE := eqMirror_ev i l n s b u c z (by omega) (by omega)
      obtain ⟨q, q1, q2⟩ := mirrorOk_both i l n s b u c z (T.map cvHead) hb (by omega) hs (by simp; omega)
      refine Ev.neg (by omega) (Ev.bind hT (Ev.bind hH (Ev.bind q1 (Ev.bind hT (Ev.bind hH (Ev.bind q2 (Ev.neg (by simp) ?_)))))))
      exact Ev.bind hT (Ev.bind hE (Ev.pos rfl (Ev.bind hH (Ev.bind (eqHeadS_ev _ (by simp; omega)) (Ev.pos rfl (Ev.now _))))))
end Go.Proofs.Ytjnnglphdaemaaa.Q
namespace Go.Proofs.Ytjnnglphdaemaaa
theorem fnExactMirrorOk_holds : Rows.FnExactMirrorOkSaid := Q.FnExactMirrorOk_row Q.pure_FnExactMirrorOk
end Go.Proofs.Ytjnnglphdaemaaa
end
