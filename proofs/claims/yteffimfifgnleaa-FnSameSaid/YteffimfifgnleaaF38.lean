/- Contracts: what these Go functions return. -/
import Derived.Test.YteffimfifgnleaaF0
namespace Go.Proofs.Yteffimfifgnleaa.F
open Go.RowKit Go.Proofs.YteffimfifgnleaaW.PrintWords Go.Proofs.YteffimfifgnleaaW.PrintLast Go.Proofs.YteffimfifgnleaaW.PrintMore
attribute [local go_sem] max2_int min2_int max_two min_two max_three min_three max_four min_four
set_option linter.unusedVariables false
set_option linter.unusedSimpArgs false

/-! ### spec_l2Names: function 87 -/
mutual
def spec_l2Names.l0 : Nat → Int → List Int → Int → List Int → List Int → Option (List Int)
 | 0, _, _, _, _, _ => none
 | k + 1, x1, x5, x6, x569000, x569001 => if x6 < (x5.length : Int) then (if 0 ≤ x6 then (spec_l2Names.l0 k x1 (x5.set (x6 : Int).toNat (-1)) (wrap64 (x6 + 1)) x569000 x569001) else (none)) else (if 0 ≤ x1 then (if x1 < (x5.length : Int) then (spec_l2Names.l1 k (x5.set (x1 : Int).toNat 0) (([x1] : List Int)) 0 x569000 x569001) else (none)) else (none))
def spec_l2Names.l1 : Nat → List Int → List Int → Int → List Int → List Int → Option (List Int)
 | 0, _, _, _, _, _ => none
 | k + 1, x5, x7, x8, x569000, x569001 => if x8 < (x7.length : Int) then (if 0 ≤ x8 then (if 0 ≤ (rd x7 x8) then (if (rd x7 x8) < (x569000.length : Int) then (if (rd x7 x8) < (x569001.length : Int) then (spec_l2Names.l2 k x5 x7 x8 (([rd x569000 (rd x7 x8), rd x569001 (rd x7 x8)] : List Int)) 0 x569000 x569001) else (none)) else (none)) else (none)) else (none)) else (some x5)
def spec_l2Names.l2 : Nat → List Int → List Int → Int → List Int → Int → List Int → List Int → Option (List Int)
 | 0, _, _, _, _, _, _, _ => none
 | k + 1, x5, x7, x8, x9, x10, x569000, x569001 => if x10 < 2 then (if 0 ≤ x10 then (if x10 < (x9.length : Int) then (if 0 ≤ (rd x9 x10) then (if (rd x9 x10) < (x5.length : Int) then (if (rd x5 (rd x9 x10)) < 0 then (if x7.length < 17592186044416 then (spec_l2Names.l2 k (x5.set ((rd x9 x10) : Int).toNat (x7.length : Int)) (x7 ++ [rd x9 x10]) x8 x9 (wrap64 (x10 + 1)) x569000 x569001) else (none)) else (spec_l2Names.l2 k x5 x7 x8 x9 (wrap64 (x10 + 1)) x569000 x569001)) else (none)) else (none)) else (none)) else (none)) else (spec_l2Names.l1 k x5 x7 (wrap64 (x8 + 1)) x569000 x569001)
end
def spec_l2Names.f (k : Nat) (l0_0 : List Int) (l0_1 : List Int) (a1 : Int) : Option (List Int) := if 0 ≤ (l0_0.length : Int) then (if ((l0_0.length : Int) : Int).toNat ≤ 35184372088832 then (spec_l2Names.l0 k a1 (List.replicate ((l0_0.length : Int) : Int).toNat 0) 0 l0_0 l0_1) else (none)) else (none)
def spec_l2Names.T11 : Bool × List (List Nat × List Nat) := (true, [([], []), ([0], [0]), ([], []), ([], []), ([2, 3], [2, 3]), ([4], [4]), ([1, 5], [1, 5]), ([6], [6]), ([], []), ([8], [8]), ([], []), ([], []), ([10, 11], [10, 11]), ([12], [12]), ([9, 13], [9, 13]), ([14], [14]), ([7, 15], [7, 15]), ([16, 0, 1, 2, 3, 4, 5, 6, 7, 8, 9, 10, 11, 12, 13, 14, 15, 16], [16])])
def spec_l2Names.B11 : List Nat := [0, 1, 0, 0, 12, 28, 63, 127, 0, 256, 0, 0, 3072, 7168, 16128, 32512, 65535, 131071]
theorem spec_l2Names.tab11 : rtab .any (opsOf Try.f87 11) = spec_l2Names.T11 := by kernel_rfl
theorem spec_l2Names.bits11 : waitsOk spec_l2Names.T11.2 spec_l2Names.B11 = true := by kernel_rfl
set_option maxHeartbeats 8000000 in
set_option maxRecDepth 100000 in
theorem spec_l2Names.calls (k : Nat) (A0_0 : Option Addr) (c0_0 : Nat) (l0_0 : List Int) (A0_1 : Option Addr) (c0_1 : Nat) (l0_1 : List Int) (a1 : Int) (r : List Int) (w : World) (hr0_0 : Kd.C (Kd.int .i64) w A0_0 l0_0.length l0_0) (hc0_0 : l0_0.length ≤ c0_0) (hr0_1 : Kd.C (Kd.int .i64) w A0_1 l0_1.length l0_1) (hc0_1 : l0_1.length ≤ c0_1) (h : spec_l2Names.f k l0_0 l0_1 a1 = some r) :
 Calls Try.prog 87 #[.agg #[.slice A0_0 l0_0.length c0_0, .slice A0_1 l0_1.length c0_1], .int .i64 a1] w fun e w' => ∃ v0_ : Value, e = .returned (v0_) ∧ Kd.R (Kd.int .i64) 3 w' w.heap.size (fun _ => True) v0_ r ∧ Below w.heap.size w w' := by
 have hu40 := Try.underlying40
 have HR0_0 := Aside0.mk hr0_0
 have HC0_0 := Aside0.mk hc0_0
 clear hr0_0 hc0_0
 have HR0_1 := Aside0.mk hr0_1
 have HC0_1 := Aside0.mk hc0_1
 clear hr0_1 hc0_1
 have HB := Aside0.mk (Below.refl w.heap.size w)
 have H : (if 0 ≤ (l0_0.length : Int) then (if ((l0_0.length : Int) : Int).toNat ≤ 35184372088832 then (spec_l2Names.l0 k a1 (List.replicate ((l0_0.length : Int) : Int).toNat 0) 0 l0_0 l0_1) else (none)) else (none)) = some r := h
 clear h
 by_cases c3 : 0 ≤ (l0_0.length : Int)
 ·rw [if_pos c3] at H
  have c3b0 := eq_true c3
  have c3b1 : decide (0 ≤ (l0_0.length : Int)) = true := decide_eq_true c3
  clear c3
  by_cases c4 : ((l0_0.length : Int) : Int).toNat ≤ 35184372088832
  case neg =>
   rw [if_neg c4] at H
   exact absurd H (by simp)
  rw [if_pos c4] at H
  have c4b0 := eq_true c4
  have c4b1 : decide (((l0_0.length : Int) : Int).toNat ≤ 35184372088832) = true := decide_eq_true c4
  clear c4
  obtain ⟨y569, hy569⟩ : ∃ y_ : List Int, y_ = (List.replicate ((l0_0.length : Int) : Int).toNat 0) := ⟨_, rfl⟩
  replace H : (spec_l2Names.l0 k a1 y569 0 l0_0 l0_1) = some r := by first | (rw [hy569]; with_reducible exact H) | (have H2_ := (Option.bind_some _ _).symm.trans H; rw [hy569]; with_reducible exact H2_) | (have H2_ := (Option.bind_some _ _).symm.trans H; with_reducible exact H2_) | with_reducible exact H | (rw [hy569]; exact H) | exact H
  have Ny569 := Aside0.mk hy569
  clear hy569
  have H' := Aside0.mk H
  clear H
  go_enter Try.func87, Try.ntmps87
  go_wp2_with (first | ((with_reducible refine gate_dst (N := 2) rfl ?_); refine bE 2 #[.slice A0_0 l0_0.length c0_0, .slice A0_1 l0_1.length c0_1] 40 ?_; intro gb568 hg w5 hbox hb; have BK568 := Aside0.mk (hbox); have GW568 := gS HB hg; have GE568 := gS HB hg; replace HB := bS HB hb; clear hb hbox hg; have hcz6_0 := zc0 BK568; have hcz6_1 := zc1 BK568; have hfz6_0 := blk_frozen BK568.out 0; have hfz6_1 := blk_frozen BK568.out 1) | ((with_reducible refine gate_dst (N := 14) rfl ?_); refine Kd.R_make (Kd.int .i64) _ 3 rfl (N := 14) rfl 22 _ _ rfl (l0_0.length : Int) rfl rfl Try.underlying22 (.int .i64 0) 8 info3 rfl (by decide) (by omega) 0 (ok := fun _ => True) (okp := fun _ => True) rfl (fun _ hk => hk) trivial (dT) (Nat.le_trans (Nat.mul_le_mul_right _ (dT : (l0_0.length : Int).toNat ≤ 35184372088832)) (by omega)) (Below.refl _ _) (Nat.le_refl _) ?_; intro v570 w7 ho8 hb hg_ hnew_; clear hg_ hnew_; (first | rw [← Ny569.out] at ho8 | (simp only [Int.reduceToNat] at ho8; rw [← Ny569.out] at ho8)); have HO571 := rL ho8 HB; replace BK568 := kB BK568 hb; replace HB := bS HB hb; clear hb ho8))
  go_loopg [6] k (fun kq v6 w' => ∃ (x5_1 : List Int) (x6_1 : Int), v6 = .int .i64 x6_1 ∧ Aside0 (spec_l2Names.l0 kq a1 x5_1 x6_1 l0_0 l0_1 = some r) ∧ Aside0 (kq ≤ k) ∧ Aside0 (Kd.R (Kd.int .i64) 3 w' w.heap.size (fun _ => True) v570 x5_1) ∧ Aside0 (w'.heap[gb568]? = some (.cells #[(.slice A0_0 l0_0.length c0_0), (.slice A0_1 l0_1.length c0_1)] 40 (0, 0))) ∧ Aside0 (Below w.heap.size w w'))
  case atStart => exact ⟨(y569), (0), eS, H', ⟨Nat.le_refl _⟩, ⟨rP HO571⟩, ⟨kP BK568⟩, ⟨bP HB⟩⟩
  case round =>
   clear H'
   try clear p2
   try clear c3
   try clear c3b0
   try clear c3b1
   try clear c4
   try clear c4b0
   try clear c4b1
   try clear c8
   try clear hcz6_0
   try clear hcz6_1
   try clear hfz6_0
   try clear hfz6_1
   obtain ⟨x5_1, x6_1, rfl, HA, HK1, HO_5, BK568, HB⟩ := hrel
   cases gk with
   | zero => exact absurd HA.out (by simp [spec_l2Names.l0])
   | succ k1 =>
    have H := HA.out
    clear HA
    simp only [spec_l2Names.l0] at H
    by_cases c9 : x6_1 < (x5_1.length : Int)
    ·rw [if_pos c9] at H
     have c9b0 : decide (x6_1 < (x5_1.length : Int)) = true := decide_eq_true c9
     clear c9
     by_cases c10 : 0 ≤ x6_1
     case neg =>
      rw [if_neg c10] at H
      exact absurd H (by simp)
     rw [if_pos c10] at H
     have c10b0 : decide (0 ≤ x6_1) = true := decide_eq_true c10
     clear c10
     obtain ⟨y572, hy572⟩ : ∃ y_ : List Int, y_ = (x5_1.set (x6_1 : Int).toNat (-1)) := ⟨_, rfl⟩
     replace H : (spec_l2Names.l0 k1 a1 y572 (wrap64 (x6_1 + 1)) l0_0 l0_1) = some r := by first | (rw [hy572]; with_reducible exact H) | (have H2_ := (Option.bind_some _ _).symm.trans H; rw [hy572]; with_reducible exact H2_) | (have H2_ := (Option.bind_some _ _).symm.trans H; with_reducible exact H2_) | with_reducible exact H | (rw [hy572]; exact H) | exact H
     have Ny572 := Aside0.mk hy572
     clear hy572
     have H' := Aside0.mk H
     clear H
     obtain ⟨Ao12, co12, eo12⟩ := Kd.R_slice HO_5.out
     subst eo12
     have p11 : 0 ≤ (x6_1 : Int) := dT
     have q11 : (x6_1 : Int) < ((x5_1.length : Int) : Int) := dT
     obtain ⟨go11, co11, eo11, gb11, gl11, cl11, HG11⟩ := Kd.R_form HO_5.out (by omega)
     (first | cases eo11 | (injection eo11 with ea_ en_ ec_; (first | subst ea_ | (injection ea_ with ea_; subst ea_)); subst ec_; clear en_))
     have GB11 := Aside0.mk gb11
     have GG11 := Aside0.mk HG11
     clear gb11 gl11 HG11
     obtain ⟨hx11_0, hf11_0⟩ := Kd.R_celln 0 HO_5.out (x6_1 : Int) p11 q11
     replace p11 := eq_true p11
     replace q11 := eq_true q11
     have HP13 := Kd.R_putg HO_5.out (x6_1 : Int) (-1)
     go_wp2_with (first | ((with_reducible refine gate_store (t := 3) (p := 23) rfl ?_); refine store_event (t := 3) (p := 23) (v := ?vo_w14) (w1 := (wr.setCell ⟨go11, (x6_1 : Int).toNat, none⟩ (.int .i64 (-1)))) ?hg ?ho ?hn ?hr ?_; (case ho => rfl); (case hg => rfl); (case hn => rfl); (case hr => first | (go_simp; done) | (go_simp; rfl)); intro w14 hw; have hg : wr.grownBy w14 (some go11) := (by rw [hw]; exact HP13.2); have hp_ : Kd.R (Kd.int .i64) 3 w14 w.heap.size (fun _ => True) (.slice (some ⟨go11, 0, none⟩) x5_1.length co12) y572 := (by rw [hw, Ny572.out]; exact HP13.1); clear HP13; replace BK568 := Aside0.mk (blk_grown (g := gb568) (o := .cells #[.slice A0_0 l0_0.length c0_0, .slice A0_1 l0_1.length c0_1] 40 (0, 0)) (kP BK568) hg (Kd.R_ne HO_5.out BK568.out (by decide))); replace HO_5 := Aside0.mk (hp_); replace HB := Aside0.mk ((by rw [hw]; exact below_set (HB.out) GB11.out : Below w.heap.size w w14)); clear hg hw hp_))
     go_roundg k1
     case measure => have := HK1.out; omega
     case rel => exact ⟨(y572), (wrap64 (x6_1 + 1)), eS, H', ⟨by have := HK1.out; omega⟩, ⟨rP HO_5⟩, ⟨kP BK568⟩, ⟨bP HB⟩⟩
    rw [if_neg c9] at H
    have c9b0 : decide (x6_1 < (x5_1.length : Int)) = false := decide_eq_false c9
    clear c9
    by_cases c15 : 0 ≤ a1
    case neg =>
     rw [if_neg c15] at H
     exact absurd H (by simp)
    rw [if_pos c15] at H
    have c15b0 : decide (0 ≤ a1) = true := decide_eq_true c15
    clear c15
    by_cases c16 : a1 < (x5_1.length : Int)
    case neg =>
     rw [if_neg c16] at H
     exact absurd H (by simp)
    rw [if_pos c16] at H
    have c16b0 : decide (a1 < (x5_1.length : Int)) = true := decide_eq_true c16
    clear c16
    obtain ⟨y573, hy573⟩ : ∃ y_ : List Int, y_ = (x5_1.set (a1 : Int).toNat 0) := ⟨_, rfl⟩
    replace H : (spec_l2Names.l1 k1 y573 (([a1] : List Int)) 0 l0_0 l0_1) = some r := by first | (rw [hy573]; with_reducible exact H) | (have H2_ := (Option.bind_some _ _).symm.trans H; rw [hy573]; with_reducible exact H2_) | (have H2_ := (Option.bind_some _ _).symm.trans H; with_reducible exact H2_) | with_reducible exact H | (rw [hy573]; exact H) | exact H
    have Ny573 := Aside0.mk hy573
    clear hy573
    obtain ⟨y574, hy574⟩ : ∃ y_ : List Int, y_ = (([a1] : List Int)) := ⟨_, rfl⟩
    replace H : (spec_l2Names.l1 k1 y573 y574 0 l0_0 l0_1) = some r := by first | (rw [hy574]; with_reducible exact H) | (have H2_ := (Option.bind_some _ _).symm.trans H; rw [hy574]; with_reducible exact H2_) | (have H2_ := (Option.bind_some _ _).symm.trans H; with_reducible exact H2_) | with_reducible exact H | (rw [hy574]; exact H) | exact H
    have Ny574 := Aside0.mk hy574
    clear hy574
    have H' := Aside0.mk H
    clear H
    obtain ⟨Ao18, co18, eo18⟩ := Kd.R_slice HO_5.out
    subst eo18
    have p17 : 0 ≤ (a1 : Int) := dT
    have q17 : (a1 : Int) < ((x5_1.length : Int) : Int) := dT
    obtain ⟨go17, co17, eo17, gb17, gl17, cl17, HG17⟩ := Kd.R_form HO_5.out (by omega)
    (first | cases eo17 | (injection eo17 with ea_ en_ ec_; (first | subst ea_ | (injection ea_ with ea_; subst ea_)); subst ec_; clear en_))
    have GB17 := Aside0.mk gb17
    have GG17 := Aside0.mk HG17
    clear gb17 gl17 HG17
    obtain ⟨hx17_0, hf17_0⟩ := Kd.R_celln 0 HO_5.out (a1 : Int) p17 q17
    replace p17 := eq_true p17
    replace q17 := eq_true q17
    have HP19 := Kd.R_putg HO_5.out (a1 : Int) 0
    go_wp2_with (first | ((with_reducible refine gate_store (t := 3) (p := 26) rfl ?_); refine store_event (t := 3) (p := 26) (v := ?vo_w20) (w1 := (wr.setCell ⟨go17, (a1 : Int).toNat, none⟩ (.int .i64 0))) ?hg ?ho ?hn ?hr ?_; (case ho => rfl); (case hg => rfl); (case hn => rfl); (case hr => first | (go_simp; done) | (go_simp; rfl)); intro w20 hw; have hg : wr.grownBy w20 (some go17) := (by rw [hw]; exact HP19.2); have hp_ : Kd.R (Kd.int .i64) 3 w20 w.heap.size (fun _ => True) (.slice (some ⟨go17, 0, none⟩) x5_1.length co18) y573 := (by rw [hw, Ny573.out]; exact HP19.1); clear HP19; replace BK568 := Aside0.mk (blk_grown (g := gb568) (o := .cells #[.slice A0_0 l0_0.length c0_0, .slice A0_1 l0_1.length c0_1] 40 (0, 0)) (kP BK568) hg (Kd.R_ne HO_5.out BK568.out (by decide))); replace HO_5 := Aside0.mk (hp_); replace HB := Aside0.mk ((by rw [hw]; exact below_set (HB.out) GB17.out : Below w.heap.size w w20)); clear hg hw hp_) | ((with_reducible refine gate_dst (N := 28) rfl ?_); refine Kd.R_lit (Kd.int .i64) _ 3 ?hg (N := 28) ?hd (xs := ([a1] : List Int)) (inner := [.int .i64 a1]) (ok := fun _ => True) (okp := fun _ => True) ?hr ?hp (fun _ hk => hk) trivial (Below.refl _ _) (Nat.le_refl _) (by simp) ?_; (case hd => rfl); (case hg => rfl); (case hr => first | (go_simp; done) | (go_simp; rfl)); (case hp => exact (Reps.one (show Kd.M (Kd.int .i64) _ _ _ a1 [.int .i64 a1] from rfl) (Reps.none _ _))); intro v575 w21 ho22 hb hg_ hnew_; clear hg_ hnew_; (first | rw [← Ny574.out] at ho22 | (simp only [Int.reduceToNat] at ho22; rw [← Ny574.out] at ho22)); have HO576 := Aside0.mk (Kd.R_lower (Kd.R_new' ho22 (Kd.R_lt (rP HO_5))) (below_size (bP HB))); replace HO_5 := Aside0.mk (Kd.R_elder' (rP HO_5) (Kd.R_base ho22) hb); replace BK568 := kB BK568 hb; replace HB := bS HB hb; clear hb ho22))
    go_loopg [7, 8] k1 (fun kq v7 v8 w' => ∃ (x5_2 : List Int) (x7_2 : List Int) (x8_2 : Int), v8 = .int .i64 x8_2 ∧ Aside0 (spec_l2Names.l1 kq x5_2 x7_2 x8_2 l0_0 l0_1 = some r) ∧ Aside0 (kq ≤ k1) ∧ Aside0 (Kd.R (Kd.int .i64) 3 w' w.heap.size (fun k_ => some k_ ≠ (v7 : Value).ownBlock) (.slice (some ⟨go17, 0, none⟩) x5_1.length co18) x5_2) ∧ Aside0 (Kd.R (Kd.int .i64) 3 w' w.heap.size (fun k_ => some k_ ≠ ((.slice (some ⟨go17, 0, none⟩) x5_1.length co18) : Value).ownBlock) v7 x7_2) ∧ Aside0 (w'.heap[gb568]? = some (.cells #[(.slice A0_0 l0_0.length c0_0), (.slice A0_1 l0_1.length c0_1)] 40 (0, 0))) ∧ Aside0 (Below w.heap.size w w'))
    case atStart => exact ⟨(y573), (y574), (0), eS, H', ⟨Nat.le_refl _⟩, ⟨rT (Kd.R_mono HO_5.out (fun _ hk => hk.2))⟩, ⟨rT (Kd.R_mono HO576.out (fun _ hk => hk.2))⟩, ⟨kP BK568⟩, ⟨bP HB⟩⟩
    case round =>
     clear H'
     try clear c1
     try clear p1
     try clear q1
     try clear hx1
     try clear p2
     try clear c3
     try clear c3b0
     try clear c3b1
     try clear c4
     try clear c4b0
     try clear c4b1
     try clear p6
     try clear c8
     try clear c9
     try clear c9b0
     try clear c10
     try clear c10b0
     try clear p11
     try clear q11
     try clear hx11
     try clear hf11
     try clear c15
     try clear c15b0
     try clear c16
     try clear c16b0
     try clear p17
     try clear q17
     try clear hx17
     try clear hf17
     try clear hcz6_0
     try clear hcz6_1
     try clear hfz6_0
     try clear hfz6_1
     try clear hx11_0
     try clear hx17_0
     try clear p11
     try clear p17
     try clear p2
     try clear q11
     try clear q17
     obtain ⟨x5_2, x7_2, x8_2, rfl, HA, HK2, HO_5, HO_7, BK568, HB⟩ := hrel
     have hl5_2 := (Kd.R_reads' HO_5.out).1
     rw [hl5_2] at HO_5
     (try simp only [hl5_2])
     (try simp only [hl5_2] at BK568)
     (try simp only [hl5_2] at HO_7)
     cases gk with
     | zero => exact absurd HA.out (by simp [spec_l2Names.l1])
     | succ k2 =>
      have H := HA.out
      clear HA
      simp only [spec_l2Names.l1] at H
      by_cases c23 : x8_2 < (x7_2.length : Int)
      case neg =>
       rw [if_neg c23] at H
       have c23b0 : decide (x8_2 < (x7_2.length : Int)) = false := decide_eq_false c23
       clear c23
       obtain rfl := Option.some.inj H
       obtain ⟨Ao46, co46, eo46⟩ := Kd.R_slice HO_7.out
       subst eo46
       go_wp2
       go_ret
       exact ⟨_, eR, rT (Kd.R_mono HO_5.out (fun _ hk => trivial)), bP HB⟩
      rw [if_pos c23] at H
      have c23b0 : decide (x8_2 < (x7_2.length : Int)) = true := decide_eq_true c23
      clear c23
      by_cases c24 : 0 ≤ x8_2
      case neg =>
       rw [if_neg c24] at H
       exact absurd H (by simp)
      rw [if_pos c24] at H
      have c24b0 : decide (0 ≤ x8_2) = true := decide_eq_true c24
      clear c24
      by_cases c25 : 0 ≤ (rd x7_2 x8_2)
      case neg =>
       rw [if_neg c25] at H
       exact absurd H (by simp)
      rw [if_pos c25] at H
      have c25b0 : decide (0 ≤ (rd x7_2 x8_2)) = true := decide_eq_true c25
      clear c25
      by_cases c26 : (rd x7_2 x8_2) < (l0_0.length : Int)
      case neg =>
       rw [if_neg c26] at H
       exact absurd H (by simp)
      rw [if_pos c26] at H
      have c26b0 : decide ((rd x7_2 x8_2) < (l0_0.length : Int)) = true := decide_eq_true c26
      clear c26
      by_cases c27 : (rd x7_2 x8_2) < (l0_1.length : Int)
      case neg =>
       rw [if_neg c27] at H
       exact absurd H (by simp)
      rw [if_pos c27] at H
      have c27b0 : decide ((rd x7_2 x8_2) < (l0_1.length : Int)) = true := decide_eq_true c27
      clear c27
      obtain ⟨y581, hy581⟩ : ∃ y_ : List Int, y_ = (([rd l0_0 (rd x7_2 x8_2), rd l0_1 (rd x7_2 x8_2)] : List Int)) := ⟨_, rfl⟩
      replace H : (spec_l2Names.l2 k2 x5_2 x7_2 x8_2 y581 0 l0_0 l0_1) = some r := by first | (rw [hy581]; with_reducible exact H) | (have H2_ := (Option.bind_some _ _).symm.trans H; rw [hy581]; with_reducible exact H2_) | (have H2_ := (Option.bind_some _ _).symm.trans H; with_reducible exact H2_) | with_reducible exact H | (rw [hy581]; exact H) | exact H
      have Ny581 := Aside0.mk hy581
      clear hy581
      have H' := Aside0.mk H
      clear H
      obtain ⟨Ao28, co28, eo28⟩ := Kd.R_slice HO_7.out
      subst eo28
      try go_wp2
      replace HO_5 := Aside0.mk (Kd.R_drew HO_5.out)
      replace HO_7 := Aside0.mk (Kd.R_drew HO_7.out)
      replace BK568 := Aside0.mk (blk_drew BK568.out)
      replace HB := Aside0.mk (below_drew1 HB.out)
      have p577 : 0 ≤ (x8_2 : Int) := dT
      have q577 : x8_2 < (x7_2.length : Int) := dT
      obtain ⟨ad577, e577, hx577_0⟩ := Kd.at_int (Kd.R_reads' HO_7.out).2.2 x8_2 p577 q577
      cases e577
      replace p577 := eq_true p577
      replace q577 := eq_true q577
      have p578 : 0 ≤ ((rd x7_2 x8_2) : Int) := dT
      have q578 : (rd x7_2 x8_2) < (l0_0.length : Int) := dT
      obtain ⟨ad578, e578, hx578_0⟩ := Kd.at_int HR0_0.out (rd x7_2 x8_2) p578 q578
      have hw578_0 := hx578_0
      cases e578
      replace hx578_0 := (HB.out.cell (World.block_lt_of_cell? w _ hx578_0)).trans hx578_0
      replace p578 := eq_true p578
      replace q578 := eq_true q578
      have p579 : 0 ≤ (x8_2 : Int) := dT
      have q579 : x8_2 < (x7_2.length : Int) := dT
      obtain ⟨ad579, e579, hx579_0⟩ := Kd.at_int (Kd.R_reads' HO_7.out).2.2 x8_2 p579 q579
      obtain rfl : ad577 = ad579 := (by injection e579)
      replace p579 := eq_true p579
      replace q579 := eq_true q579
      have p580 : 0 ≤ ((rd x7_2 x8_2) : Int) := dT
      have q580 : (rd x7_2 x8_2) < (l0_1.length : Int) := dT
      obtain ⟨ad580, e580, hx580_0⟩ := Kd.at_int HR0_1.out (rd x7_2 x8_2) p580 q580
      have hw580_0 := hx580_0
      cases e580
      replace hx580_0 := (HB.out.cell (World.block_lt_of_cell? w _ hx580_0)).trans hx580_0
      replace p580 := eq_true p580
      replace q580 := eq_true q580
      refine start_ (n := 18) (S := fun w' => w'.cell? ⟨gb568, 0, none⟩ = some (.slice (some ad578) l0_0.length c0_0) ∧ w'.cell? ⟨gb568, 1, none⟩ = some (.slice (some ad580) l0_1.length c0_1) ∧ w'.cell? (ad577.add (x8_2).toNat) = some (.int .i64 (rd x7_2 x8_2)) ∧ w'.cell? (ad578.add ((rd x7_2 x8_2)).toNat) = some (.int .i64 (rd l0_0 (rd x7_2 x8_2))) ∧ w'.cell? (ad577.add (x8_2).toNat) = some (.int .i64 (rd x7_2 x8_2)) ∧ w'.cell? (ad580.add ((rd x7_2 x8_2)).toNat) = some (.int .i64 (rd l0_1 (rd x7_2 x8_2)))) (ds := []) (tf 0 18) (by kernel_rfl) rfl rfl ⟨(blk_cell BK568.out 0).trans rfl, (blk_cell BK568.out 1).trans rfl, hx577_0, ((HB.out.cell (World.block_lt_of_cell? w _ hw578_0)).trans hw578_0), hx579_0, ((HB.out.cell (World.block_lt_of_cell? w _ hw580_0)).trans hw580_0)⟩ (fun hHeld => ?_); refine with_tabW spec_l2Names.tab11 spec_l2Names.bits11 (fun HT_ HW_ => ?_)
      generalize wr.drew = w29 at HO_5 HO_7 BK568 HB hx577_0 hx578_0 hx579_0 hx580_0 hHeld ⊢
      refine pV 0 35 (tf 1 17) HT_ ?_
      refine pV 2 37 (tB 18 5) HT_ ?_
      refine pV 3 38 (tB 18 13) HT_ ?_
      refine pV 4 39 (tB 18 29) HT_ ?_
      refine pV 8 43 (tB 18 285) HT_ ?_
      refine pV 10 45 (tB 18 1309) HT_ ?_
      refine pV 11 46 (tB 18 3357) HT_ ?_
      refine pV 12 47 (tB 18 7453) HT_ ?_
      refine tV 1 36 (tB 18 7455) HT_ HW_ hHeld ?_
      refine tV 5 40 (tB 18 7487) HT_ HW_ hHeld ?_
      refine pV 6 41 (tB 18 7551) HT_ ?_
      refine tV 7 42 (tB 18 7679) HT_ HW_ hHeld ?_
      refine tV 9 44 (tf 13 5) HT_ HW_ hHeld ?_
      refine tV 13 48 (tf 14 4) HT_ HW_ hHeld ?_
      refine pV 14 49 (tf 15 3) HT_ ?_
      refine tV 15 50 (tf 16 2) HT_ HW_ hHeld ?_
      refine eN 16 (some 51) (tf 17 1) HT_ (fun K hK => ?_)
      refine Kd.R_lit_step (Kd.int .i64) _ 3 ?hg (N := 51) ?hd (xs := ([rd l0_0 (rd x7_2 x8_2), rd l0_1 (rd x7_2 x8_2)] : List Int)) (inner := [.int .i64 (rd l0_0 (rd x7_2 x8_2)), .int .i64 (rd l0_1 (rd x7_2 x8_2))]) (ok := fun _ => True) (okp := fun _ => True) ?hr ?hp (fun _ hk => hk) trivial (Below.refl _ _) (Nat.le_refl _) (by simp) ?_; (case hd => rfl); (case hg => rfl); (case hr => first | (go_simp; done) | (go_simp; rfl)); (case hp => exact (Reps.one (show Kd.M (Kd.int .i64) _ _ _ (rd l0_0 (rd x7_2 x8_2)) [.int .i64 (rd l0_0 (rd x7_2 x8_2))] from rfl) (Reps.one (show Kd.M (Kd.int .i64) _ _ _ (rd l0_1 (rd x7_2 x8_2)) [.int .i64 (rd l0_1 (rd x7_2 x8_2))] from rfl) (Reps.none _ _))))
      intro v582 w30 ho31 hb hg_ hnew_
      have HS2_ := (hb.cell (World.block_lt_of_cell? _ _ (hHeld.2.2.1))).trans (hHeld.2.2.1)
      have HS4_ := (hb.cell (World.block_lt_of_cell? _ _ (hHeld.2.2.2.2.1))).trans (hHeld.2.2.2.2.1)
      clear hg_ hnew_
      (first | rw [← Ny581.out] at ho31 | (simp only [Int.reduceToNat] at ho31; rw [← Ny581.out] at ho31))
      have HO583 := Aside0.mk (Kd.R_lower (Kd.R_new' (Kd.R_new' ho31 (Kd.R_lt (rP HO_5))) (Kd.R_lt (rP HO_7))) (below_size (bP HB)))
      replace HO_5 := Aside0.mk (Kd.R_elder' (rP HO_5) (Kd.R_base ho31) hb)
      replace HO_7 := Aside0.mk (Kd.R_elder' (rP HO_7) (Kd.R_base ho31) hb)
      replace BK568 := kB BK568 hb
      replace HB := bS HB hb
      clear hb ho31
      refine hK.out _ _ ⟨(blk_cell BK568.out 0).trans rfl, (blk_cell BK568.out 1).trans rfl, HS2_, ((HB.out.cell (World.block_lt_of_cell? w _ hw578_0)).trans hw578_0), HS4_, ((HB.out.cell (World.block_lt_of_cell? w _ hw580_0)).trans hw580_0)⟩ (fun hHeld => ?_)
      clear hK K
      refine norm_ (a' := ?_) ?_ ?_
      rotate_left
      ·show Act.put _ (some 51) _ = _
       simp only [Act.put, List.setIfInBounds_toArray, List.set_cons_zero, List.set_cons_succ, i64_w, i32_w]
       rfl
      refine pV 17 9 (tf 18 0) HT_ ?_
      refine done_ (done_of HT_.out (by kernel_rfl)) ?_
      try go_wp2
      go_loopg [7, 10] k2 (fun kq v7 v10 w' => ∃ (x5_3 : List Int) (x7_3 : List Int) (x10_3 : Int), v10 = .int .i64 x10_3 ∧ Aside0 (spec_l2Names.l2 kq x5_3 x7_3 x8_2 y581 x10_3 l0_0 l0_1 = some r) ∧ Aside0 (kq ≤ k2) ∧ Aside0 (Kd.R (Kd.int .i64) 3 w' w.heap.size (fun k_ => some k_ ≠ (v7 : Value).ownBlock ∧ some k_ ≠ (v582 : Value).ownBlock) (.slice (some ⟨go17, 0, none⟩) x5_2.length co18) x5_3) ∧ Aside0 (Kd.R (Kd.int .i64) 3 w' w.heap.size (fun k_ => some k_ ≠ ((.slice (some ⟨go17, 0, none⟩) x5_2.length co18) : Value).ownBlock ∧ some k_ ≠ (v582 : Value).ownBlock) v7 x7_3) ∧ Aside0 (Kd.R (Kd.int .i64) 3 w' w.heap.size (fun k_ => some k_ ≠ ((.slice (some ⟨go17, 0, none⟩) x5_2.length co18) : Value).ownBlock ∧ some k_ ≠ (v7 : Value).ownBlock) v582 y581) ∧ Aside0 (w'.heap[gb568]? = some (.cells #[(.slice (some ad578) l0_0.length c0_0), (.slice (some ad580) l0_1.length c0_1)] 40 (0, 0))) ∧ Aside0 (Below w.heap.size w w'))
      case atStart => exact ⟨(x5_2), (x7_2), (0), eS, H', ⟨Nat.le_refl _⟩, ⟨by (try simp only [hl5_2]); (with_reducible repeat (first | apply Kd.R_alloc | apply Kd.R_drewN | apply Kd.R_drew)); exact HO_5.out⟩, ⟨by (try simp only [hl5_2]); (with_reducible repeat (first | apply Kd.R_alloc | apply Kd.R_drewN | apply Kd.R_drew)); exact HO_7.out⟩, ⟨by (try simp only [hl5_2]); (with_reducible repeat (first | apply Kd.R_alloc | apply Kd.R_drewN | apply Kd.R_drew)); exact Kd.R_mono HO583.out (fun _ hk => ⟨hk.1.2, hk.2⟩)⟩, ⟨by (try simp only [hl5_2]); (with_reducible repeat (first | refine blk_drewN ?_ _ | refine blk_drew ?_ | refine blk_alloc ?_ _)); exact BK568.out⟩, ⟨bP HB⟩⟩
      case round =>
       clear H'
       try clear c1
       try clear p1
       try clear q1
       try clear hx1
       try clear c2
       try clear p2
       try clear c3
       try clear c3b0
       try clear c3b1
       try clear c4
       try clear c4b0
       try clear c4b1
       try clear p5
       try clear q5
       try clear hx5
       try clear p6
       try clear c8
       try clear c9
       try clear c9b0
       try clear c10
       try clear c10b0
       try clear p11
       try clear q11
       try clear hx11
       try clear hf11
       try clear c15
       try clear c15b0
       try clear c16
       try clear c16b0
       try clear p17
       try clear q17
       try clear hx17
       try clear hf17
       try clear c23
       try clear c23b0
       try clear c24
       try clear c24b0
       try clear c25
       try clear c25b0
       try clear c26
       try clear c26b0
       try clear c27
       try clear c27b0
       try clear hcz6_0
       try clear hcz6_1
       try clear hfz6_0
       try clear hfz6_1
       try clear hx11_0
       try clear hx17_0
       try clear hx577_0
       try clear hx578_0
       try clear hx579_0
       try clear hx580_0
       try clear p1
       try clear p11
       try clear p17
       try clear p2
       try clear p577
       try clear p578
       try clear p579
       try clear p580
       try clear p6
       try clear q1
       try clear q11
       try clear q17
       try clear q577
       try clear q578
       try clear q579
       try clear q580
       obtain ⟨x5_3, x7_3, x10_3, rfl, HA, HK3, HO_5, HO_7, HO_9, BK568, HB⟩ := hrel
       have hl5_3 := (Kd.R_reads' HO_5.out).1
       rw [hl5_3] at HO_5
       (try simp only [hl5_3])
       (try simp only [hl5_3] at BK568)
       (try simp only [hl5_3] at HO_7)
       (try simp only [hl5_3] at HO_9)
       cases gk with
       | zero => exact absurd HA.out (by simp [spec_l2Names.l2])
       | succ k3 =>
        have H := HA.out
        clear HA
        simp only [spec_l2Names.l2] at H
        by_cases c32 : x10_3 < 2
        case neg =>
         rw [if_neg c32] at H
         have c32b0 : decide (x10_3 < 2) = false := decide_eq_false c32
         clear c32
         have H' := Aside0.mk H
         clear H
         go_wp2
         (try simp only [← hl5_2, ← hl5_3])
         go_roundg k3
         case measure => have := HK1.out; have := HK2.out; have := HK3.out; omega
         case rel => exact ⟨(x5_3), (x7_3), (wrap64 (x8_2 + 1)), eS, H', ⟨by have := HK1.out; have := HK2.out; have := HK3.out; omega⟩, ⟨by (try simp only [hl5_2]); (try simp only [hl5_3]); (with_reducible repeat (first | apply Kd.R_alloc | apply Kd.R_drewN | apply Kd.R_drew)); exact Kd.R_mono HO_5.out (fun _ hk => hk.1)⟩, ⟨by (try simp only [hl5_2]); (try simp only [hl5_3]); (with_reducible repeat (first | apply Kd.R_alloc | apply Kd.R_drewN | apply Kd.R_drew)); exact Kd.R_mono HO_7.out (fun _ hk => hk.1)⟩, ⟨by (try simp only [hl5_2]); (try simp only [hl5_3]); (with_reducible repeat (first | refine blk_drewN ?_ _ | refine blk_drew ?_ | refine blk_alloc ?_ _)); exact BK568.out⟩, ⟨bP HB⟩⟩
        rw [if_pos c32] at H
        have c32b0 : decide (x10_3 < 2) = true := decide_eq_true c32
        clear c32
        by_cases c33 : 0 ≤ x10_3
        case neg =>
         rw [if_neg c33] at H
         exact absurd H (by simp)
        rw [if_pos c33] at H
        have c33b0 : decide (0 ≤ x10_3) = true := decide_eq_true c33
        clear c33
        by_cases c34 : x10_3 < (y581.length : Int)
        case neg =>
         rw [if_neg c34] at H
         exact absurd H (by simp)
        rw [if_pos c34] at H
        have c34b0 : decide (x10_3 < (y581.length : Int)) = true := decide_eq_true c34
        clear c34
        by_cases c35 : 0 ≤ (rd y581 x10_3)
        case neg =>
         rw [if_neg c35] at H
         exact absurd H (by simp)
        rw [if_pos c35] at H
        have c35b0 : decide (0 ≤ (rd y581 x10_3)) = true := decide_eq_true c35
        clear c35
        by_cases c36 : (rd y581 x10_3) < (x5_3.length : Int)
        case neg =>
         rw [if_neg c36] at H
         exact absurd H (by simp)
        rw [if_pos c36] at H
        have c36b0 : decide ((rd y581 x10_3) < (x5_3.length : Int)) = true := decide_eq_true c36
        clear c36
        by_cases c37 : (rd x5_3 (rd y581 x10_3)) < 0
        case neg =>
         rw [if_neg c37] at H
         have c37b0 : decide ((rd x5_3 (rd y581 x10_3)) < 0) = false := decide_eq_false c37
         clear c37
         have H' := Aside0.mk H
         clear H
         obtain ⟨Ao45, co45, eo45⟩ := Kd.R_slice HO_9.out
         subst eo45
         have p584 : 0 ≤ (x10_3 : Int) := dT
         have q584 : x10_3 < (y581.length : Int) := dT
         obtain ⟨ad584, e584, hx584_0⟩ := Kd.at_int (Kd.R_reads' HO_9.out).2.2 x10_3 p584 q584
         cases e584
         replace p584 := eq_true p584
         replace q584 := eq_true q584
         have p585 : 0 ≤ ((rd y581 x10_3) : Int) := dT
         have q585 : (rd y581 x10_3) < (x5_3.length : Int) := dT
         obtain ⟨ad585, e585, hx585_0⟩ := Kd.at_int (Kd.R_reads' HO_5.out).2.2 (rd y581 x10_3) p585 q585
         obtain rfl : (⟨go17, 0, none⟩ : Addr) = ad585 := (by injection e585)
         (first | simp only [add_plain] at hx585_0 | simp only [add_at] at hx585_0 | simp only [Addr.add, Nat.zero_add] at hx585_0 | skip)
         replace p585 := eq_true p585
         replace q585 := eq_true q585
         go_wp2
         (try simp only [← hl5_3])
         go_roundg k3
         case measure => have := HK1.out; have := HK2.out; have := HK3.out; omega
         case rel => exact ⟨(x5_3), (x7_3), (wrap64 (x10_3 + 1)), eS, H', ⟨by have := HK1.out; have := HK2.out; have := HK3.out; omega⟩, ⟨by (try simp only [hl5_2]); (try simp only [hl5_3]); (with_reducible repeat (first | apply Kd.R_alloc | apply Kd.R_drewN | apply Kd.R_drew)); exact HO_5.out⟩, ⟨by (try simp only [hl5_2]); (try simp only [hl5_3]); (with_reducible repeat (first | apply Kd.R_alloc | apply Kd.R_drewN | apply Kd.R_drew)); exact HO_7.out⟩, ⟨by (try simp only [hl5_2]); (try simp only [hl5_3]); (with_reducible repeat (first | apply Kd.R_alloc | apply Kd.R_drewN | apply Kd.R_drew)); exact HO_9.out⟩, ⟨by (try simp only [hl5_2]); (try simp only [hl5_3]); (with_reducible repeat (first | refine blk_drewN ?_ _ | refine blk_drew ?_ | refine blk_alloc ?_ _)); exact BK568.out⟩, ⟨bP HB⟩⟩
        rw [if_pos c37] at H
        have c37b0 : decide ((rd x5_3 (rd y581 x10_3)) < 0) = true := decide_eq_true c37
        clear c37
        obtain ⟨y587, hy587⟩ : ∃ y_ : List Int, y_ = (x5_3.set ((rd y581 x10_3) : Int).toNat (x7_3.length : Int)) := ⟨_, rfl⟩
        replace H : (if x7_3.length < 17592186044416 then (spec_l2Names.l2 k3 y587 (x7_3 ++ [rd y581 x10_3]) x8_2 y581 (wrap64 (x10_3 + 1)) l0_0 l0_1) else (none)) = some r := by first | (rw [hy587]; with_reducible exact H) | (have H2_ := (Option.bind_some _ _).symm.trans H; rw [hy587]; with_reducible exact H2_) | (have H2_ := (Option.bind_some _ _).symm.trans H; with_reducible exact H2_) | with_reducible exact H | (rw [hy587]; exact H) | exact H
        have Ny587 := Aside0.mk hy587
        clear hy587
        by_cases c39 : x7_3.length < 17592186044416
        case neg =>
         rw [if_neg c39] at H
         exact absurd H (by simp)
        rw [if_pos c39] at H
        have LMc39 := Aside0.mk c39
        clear c39
        obtain ⟨y589, hy589⟩ : ∃ y_ : List Int, y_ = (x7_3 ++ [rd y581 x10_3]) := ⟨_, rfl⟩
        replace H : (spec_l2Names.l2 k3 y587 y589 x8_2 y581 (wrap64 (x10_3 + 1)) l0_0 l0_1) = some r := by first | (rw [hy589]; with_reducible exact H) | (have H2_ := (Option.bind_some _ _).symm.trans H; rw [hy589]; with_reducible exact H2_) | (have H2_ := (Option.bind_some _ _).symm.trans H; with_reducible exact H2_) | with_reducible exact H | (rw [hy589]; exact H) | exact H
        have Ny589 := Aside0.mk hy589
        clear hy589
        have H' := Aside0.mk H
        clear H
        obtain ⟨Ao40, co40, eo40⟩ := Kd.R_slice HO_9.out
        subst eo40
        have p584 : 0 ≤ (x10_3 : Int) := dT
        have q584 : x10_3 < (y581.length : Int) := dT
        obtain ⟨ad584, e584, hx584_0⟩ := Kd.at_int (Kd.R_reads' HO_9.out).2.2 x10_3 p584 q584
        cases e584
        replace p584 := eq_true p584
        replace q584 := eq_true q584
        have p585 : 0 ≤ ((rd y581 x10_3) : Int) := dT
        have q585 : (rd y581 x10_3) < (x5_3.length : Int) := dT
        obtain ⟨ad585, e585, hx585_0⟩ := Kd.at_int (Kd.R_reads' HO_5.out).2.2 (rd y581 x10_3) p585 q585
        obtain rfl : (⟨go17, 0, none⟩ : Addr) = ad585 := (by injection e585)
        (first | simp only [add_plain] at hx585_0 | simp only [add_at] at hx585_0 | simp only [Addr.add, Nat.zero_add] at hx585_0 | skip)
        replace p585 := eq_true p585
        replace q585 := eq_true q585
        have p586 : 0 ≤ (x10_3 : Int) := dT
        have q586 : x10_3 < (y581.length : Int) := dT
        obtain ⟨ad586, e586, hx586_0⟩ := Kd.at_int (Kd.R_reads' HO_9.out).2.2 x10_3 p586 q586
        obtain rfl : ad584 = ad586 := (by injection e586)
        replace p586 := eq_true p586
        replace q586 := eq_true q586
        obtain ⟨Ao41, co41, eo41⟩ := Kd.R_slice HO_7.out
        subst eo41
        have p38 : 0 ≤ ((rd y581 x10_3) : Int) := dT
        have q38 : ((rd y581 x10_3) : Int) < ((x5_3.length : Int) : Int) := dT
        obtain ⟨hx38_0, hf38_0⟩ := Kd.R_celln 0 HO_5.out ((rd y581 x10_3) : Int) p38 q38
        replace p38 := eq_true p38
        replace q38 := eq_true q38
        have HP42 := Kd.R_putg HO_5.out ((rd y581 x10_3) : Int) (x7_3.length : Int)
        go_wp2_with (first | ((with_reducible refine gate_store (t := 3) (p := 71) rfl ?_); refine store_event (t := 3) (p := 71) (v := ?vo_w43) (w1 := (wr.setCell ⟨go17, ((rd y581 x10_3) : Int).toNat, none⟩ (.int .i64 (x7_3.length : Int)))) ?hg ?ho ?hn ?hr ?_; (case ho => rfl); (case hg => rfl); (case hn => rfl); (case hr => first | (go_simp; done) | (go_simp; rfl)); intro w43 hw; have hg : wr.grownBy w43 (some go17) := (by rw [hw]; exact HP42.2); have hp_ : Kd.R (Kd.int .i64) 3 w43 w.heap.size (fun k_ => some k_ ≠ (.slice Ao41 x7_3.length co41 : Value).ownBlock ∧ some k_ ≠ (.slice (some ad584) y581.length co40 : Value).ownBlock) (.slice (some ⟨go17, 0, none⟩) x5_3.length co18) y587 := (by rw [hw, Ny587.out]; exact HP42.1); clear HP42; replace HO_7 := Aside0.mk (Kd.R_after (v := (.slice (some ⟨go17, 0, none⟩) x5_3.length co18)) (v1 := (.slice (some ⟨go17, 0, none⟩) x5_3.length co18)) (ok := (fun k_ => some k_ ≠ (.slice (some ad584) y581.length co40 : Value).ownBlock)) (rT (Kd.R_mono HO_7.out (fun _ hk => ⟨hk.2, hk.1⟩))) hg (.inl rfl)); replace HO_9 := Aside0.mk (Kd.R_after (v := (.slice (some ⟨go17, 0, none⟩) x5_3.length co18)) (v1 := (.slice (some ⟨go17, 0, none⟩) x5_3.length co18)) (ok := (fun k_ => some k_ ≠ (.slice Ao41 x7_3.length co41 : Value).ownBlock)) (rT (Kd.R_mono HO_9.out (fun _ hk => ⟨hk.2, hk.1⟩))) hg (.inl rfl)); replace BK568 := Aside0.mk (blk_grown (g := gb568) (o := .cells #[.slice (some ad578) l0_0.length c0_0, .slice (some ad580) l0_1.length c0_1] 40 (0, 0)) (kP BK568) hg (Kd.R_ne HO_5.out BK568.out (by decide))); replace HO_5 := Aside0.mk (hp_); replace HB := Aside0.mk ((by rw [hw]; exact below_set (HB.out) GB17.out : Below w.heap.size w w43)); clear hg hw hp_; have p588 : 0 ≤ (x10_3 : Int) := dT; have q588 : x10_3 < (y581.length : Int) := dT; obtain ⟨ad588, e588, hx588_0⟩ := Kd.at_int (Kd.R_reads' HO_9.out).2.2 x10_3 p588 q588; obtain rfl : ad584 = ad588 := (by injection e588); replace p588 := eq_true p588; replace q588 := eq_true q588) | ((with_reducible refine gate_builtin (b := .append) (xs := #[.tmp 72, .tmp 77]) rfl ?_); at_builtin; refine Kd.R_append (Kd.int .i64) (w0 := w) w.heap.size rfl (.tmp 72) (.tmp 77) 22 3 (.int .i64 0) 8 rfl Try.underlying22 info3 rfl (by decide) (by omega) (.slice Ao41 x7_3.length co41) x7_3 (rd y581 x10_3) [.int .i64 (rd y581 x10_3)] (fun k_ => some k_ ≠ (.slice (some ⟨go17, 0, none⟩) x5_3.length co18 : Value).ownBlock ∧ some k_ ≠ (.slice (some ad584) y581.length co40 : Value).ownBlock) (fun _ => False) rfl rfl ?aP (fun _ hk => hk.elim) ?aF ?aO ?aB ?aS ?aL ?_; (case aP => exact rfl); (case aB => exact (bP HB)); (case aF => exact (fun k_ hk => ⟨Kd.fresh' (Kd.R_lt (rP HO_5)) k_ hk, Kd.fresh' (Kd.R_lt (rP HO_9)) k_ hk⟩)); (case aO => exact (rT (Kd.R_mono HO_7.out (fun _ hk => ⟨hk.2, hk.1⟩)))); (case aS => exact (below_size (bP HB))); (case aL => have := LMc39.out; omega); intro v590 w44 ho hb hg hat; rw [← Ny589.out] at ho; replace HO_5 := Aside0.mk (Kd.R_after (ok := (fun k_ => some k_ ≠ (.slice (some ad584) y581.length co40 : Value).ownBlock)) (rT (Kd.R_mono HO_5.out (fun _ hk => ⟨hk.2, hk.1⟩))) hg hat); replace HO_9 := Aside0.mk (Kd.R_after (ok := (fun k_ => some k_ ≠ (.slice (some ⟨go17, 0, none⟩) x5_3.length co18 : Value).ownBlock)) (rT (Kd.R_mono HO_9.out (fun _ hk => ⟨hk.2, hk.1⟩))) hg hat); replace BK568 := Aside0.mk (blk_grown (g := gb568) (o := .cells #[.slice (some ad578) l0_0.length c0_0, .slice (some ad580) l0_1.length c0_1] 40 (0, 0)) (kP BK568) hg (Kd.R_ne HO_7.out BK568.out (by decide))); replace HB := Aside0.mk (hb); have HO591 := Aside0.mk (ho); clear HO_7; clear ho hb hg hat))
        (try simp only [← hl5_3])
        go_roundg k3
        case measure => have := HK1.out; have := HK2.out; have := HK3.out; omega
        case rel => exact ⟨(y587), (y589), (wrap64 (x10_3 + 1)), eS, H', ⟨by have := HK1.out; have := HK2.out; have := HK3.out; omega⟩, ⟨by (try simp only [hl5_2]); (try simp only [hl5_3]); (with_reducible repeat (first | apply Kd.R_alloc | apply Kd.R_drewN | apply Kd.R_drew)); exact Kd.R_mono HO_5.out (fun _ hk => ⟨hk.2, hk.1⟩)⟩, ⟨by (try simp only [hl5_2]); (try simp only [hl5_3]); (with_reducible repeat (first | apply Kd.R_alloc | apply Kd.R_drewN | apply Kd.R_drew)); exact HO591.out⟩, ⟨by (try simp only [hl5_2]); (try simp only [hl5_3]); (with_reducible repeat (first | apply Kd.R_alloc | apply Kd.R_drewN | apply Kd.R_drew)); exact HO_9.out⟩, ⟨by (try simp only [hl5_2]); (try simp only [hl5_3]); (with_reducible repeat (first | refine blk_drewN ?_ _ | refine blk_drew ?_ | refine blk_alloc ?_ _)); exact BK568.out⟩, ⟨bP HB⟩⟩
 ·rw [if_neg c3] at H
  exact absurd H (by simp)

end Go.Proofs.Yteffimfifgnleaa.F
