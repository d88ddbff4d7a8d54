/- Contracts: what these Go functions return. -/
import Derived.Test.YtjnbbnaidjodlaaF0
namespace Go.Proofs.Ytjnbbnaidjodlaa.F
open Go.RowKit Go.Proofs.YtjnbbnaidjodlaaW.PrintWords Go.Proofs.YtjnbbnaidjodlaaW.PrintLast Go.Proofs.YtjnbbnaidjodlaaW.PrintMore
attribute [local go_sem] max2_int min2_int max_two min_two max_three min_three max_four min_four
set_option linter.unusedVariables false
set_option linter.unusedSimpArgs false

/-! ### spec_l2Names: function 33 -/
mutual
def spec_l2Names.l0 : Nat → Int → List Int → Int → List Int → List Int → Option (List Int)
 | 0, _, _, _, _, _ => none
 | k + 1, x1, x5, x6, x380000, x380001 => if x6 < (x5.length : Int) then (if 0 ≤ x6 then (spec_l2Names.l0 k x1 (x5.set (x6 : Int).toNat (-1)) (wrap64 (x6 + 1)) x380000 x380001) else (none)) else (if 0 ≤ x1 then (if x1 < (x5.length : Int) then (spec_l2Names.l1 k (x5.set (x1 : Int).toNat 0) (([x1] : List Int)) 0 x380000 x380001) else (none)) else (none))
def spec_l2Names.l1 : Nat → List Int → List Int → Int → List Int → List Int → Option (List Int)
 | 0, _, _, _, _, _ => none
 | k + 1, x5, x7, x8, x380000, x380001 => if x8 < (x7.length : Int) then (if 0 ≤ x8 then (if 0 ≤ (rd x7 x8) then (if (rd x7 x8) < (x380000.length : Int) then (if (rd x7 x8) < (x380001.length : Int) then (spec_l2Names.l2 k x5 x7 x8 (([rd x380000 (rd x7 x8), rd x380001 (rd x7 x8)] : List Int)) 0 x380000 x380001) else (none)) else (none)) else (none)) else (none)) else (some x5)
def spec_l2Names.l2 : Nat → List Int → List Int → Int → List Int → Int → List Int → List Int → Option (List Int)
 | 0, _, _, _, _, _, _, _ => none
 | k + 1, x5, x7, x8, x9, x10, x380000, x380001 => if x10 < 2 then (if 0 ≤ x10 then (if x10 < (x9.length : Int) then (if 0 ≤ (rd x9 x10) then (if (rd x9 x10) < (x5.length : Int) then (if (rd x5 (rd x9 x10)) < 0 then (if x7.length < 17592186044416 then (spec_l2Names.l2 k (x5.set ((rd x9 x10) : Int).toNat (x7.length : Int)) (x7 ++ [rd x9 x10]) x8 x9 (wrap64 (x10 + 1)) x380000 x380001) else (none)) else (spec_l2Names.l2 k x5 x7 x8 x9 (wrap64 (x10 + 1)) x380000 x380001)) else (none)) else (none)) else (none)) else (none)) else (spec_l2Names.l1 k x5 x7 (wrap64 (x8 + 1)) x380000 x380001)
end
def spec_l2Names.f (k : Nat) (l0_0 : List Int) (l0_1 : List Int) (a1 : Int) : Option (List Int) := if 0 ≤ (l0_0.length : Int) then (if ((l0_0.length : Int) : Int).toNat ≤ 35184372088832 then (spec_l2Names.l0 k a1 (List.replicate ((l0_0.length : Int) : Int).toNat 0) 0 l0_0 l0_1) else (none)) else (none)
def spec_l2Names.T11 : Bool × List (List Nat × List Nat) := (true, [([], []), ([0], [0]), ([], []), ([], []), ([2, 3], [2, 3]), ([4], [4]), ([1, 5], [1, 5]), ([6], [6]), ([], []), ([8], [8]), ([], []), ([], []), ([10, 11], [10, 11]), ([12], [12]), ([9, 13], [9, 13]), ([14], [14]), ([7, 15], [7, 15]), ([16, 0, 1, 2, 3, 4, 5, 6, 7, 8, 9, 10, 11, 12, 13, 14, 15, 16], [16])])
def spec_l2Names.B11 : List Nat := [0, 1, 0, 0, 12, 28, 63, 127, 0, 256, 0, 0, 3072, 7168, 16128, 32512, 65535, 131071]
theorem spec_l2Names.tab11 : rtab .any (opsOf Try.f33 11) = spec_l2Names.T11 := by kernel_rfl
theorem spec_l2Names.bits11 : waitsOk spec_l2Names.T11.2 spec_l2Names.B11 = true := by kernel_rfl
set_option maxHeartbeats 8000000 in
set_option maxRecDepth 100000 in
theorem spec_l2Names.calls (k : Nat) (A0_0 : Option Addr) (c0_0 : Nat) (l0_0 : List Int) (A0_1 : Option Addr) (c0_1 : Nat) (l0_1 : List Int) (a1 : Int) (r : List Int) (w : World) (hr0_0 : Kd.C (Kd.int .i64) w A0_0 l0_0.length l0_0) (hc0_0 : l0_0.length ≤ c0_0) (hr0_1 : Kd.C (Kd.int .i64) w A0_1 l0_1.length l0_1) (hc0_1 : l0_1.length ≤ c0_1) (h : spec_l2Names.f k l0_0 l0_1 a1 = some r) :
 Calls Try.prog 33 #[.agg #[.slice A0_0 l0_0.length c0_0, .slice A0_1 l0_1.length c0_1], .int .i64 a1] w fun e w' => ∃ v0_ : Value, e = .returned (v0_) ∧ Kd.R (Kd.int .i64) 3 w' w.heap.size (fun _ => True) v0_ r ∧ Below w.heap.size w w' := by
 have hu25 := Try.underlying25
 have HR0_0 := Aside0.mk hr0_0
 have HC0_0 := Aside0.mk hc0_0
 clear hr0_0 hc0_0
 have HR0_1 := Aside0.mk hr0_1
 have HC0_1 := Aside0.mk hc0_1
 clear hr0_1 hc0_1
 have HB := Aside0.mk (Below.refl w.heap.size w)
 have H : (if 0 ≤ (l0_0.length : Int) then (if ((l0_0.length : Int) : Int).toNat ≤ 35184372088832 then (spec_l2Names.l0 k a1 (List.replicate ((l0_0.length : Int) : Int).toNat 0) 0 l0_0 l0_1) else (none)) else (none)) = some r := h
 clear h
 by_cases c3 : 0 ≤ (l0_0.length : Int)
 ·rw [if_pos c3] at H
  have c3b0 := eq_true c3
  have c3b1 : decide (0 ≤ (l0_0.length : Int)) = true := decide_eq_true c3
  clear c3
  by_cases c4 : ((l0_0.length : Int) : Int).toNat ≤ 35184372088832
  case neg =>
   rw [if_neg c4] at H
   exact absurd H (by simp)
  rw [if_pos c4] at H
  have c4b0 := eq_true c4
  have c4b1 : decide (((l0_0.length : Int) : Int).toNat ≤ 35184372088832) = true := decide_eq_true c4
  clear c4
  obtain ⟨y380, hy380⟩ : ∃ y_ : List Int, y_ = (List.replicate ((l0_0.length : Int) : Int).toNat 0) := ⟨_, rfl⟩
  replace H : (spec_l2Names.l0 k a1 y380 0 l0_0 l0_1) = some r := by first | (rw [hy380]; with_reducible exact H) | (have H2_ := (Option.bind_some _ _).symm.trans H; rw [hy380]; with_reducible exact H2_) | (have H2_ := (Option.bind_some _ _).symm.trans H; with_reducible exact H2_) | with_reducible exact H | (rw [hy380]; exact H) | exact H
  have Ny380 := Aside0.mk hy380
  clear hy380
  have H' := Aside0.mk H
  clear H
  go_enter Try.func33, Try.ntmps33
  go_wp2_with (first | ((with_reducible refine gate_dst (N := 2) rfl ?_); refine bE 2 #[.slice A0_0 l0_0.length c0_0, .slice A0_1 l0_1.length c0_1] 25 ?_; intro gb379 hg w5 hbox hb; have BK379 := Aside0.mk (hbox); have GW379 := gS HB hg; have GE379 := gS HB hg; replace HB := bS HB hb; clear hb hbox hg; have hcz6_0 := zc0 BK379; have hcz6_1 := zc1 BK379; have hfz6_0 := blk_frozen BK379.out 0; have hfz6_1 := blk_frozen BK379.out 1) | ((with_reducible refine gate_dst (N := 14) rfl ?_); refine Kd.R_make (Kd.int .i64) _ 3 rfl (N := 14) rfl 23 _ _ rfl (l0_0.length : Int) rfl rfl Try.underlying23 (.int .i64 0) 8 info3 rfl (by decide) (by omega) 0 (ok := fun _ => True) (okp := fun _ => True) rfl (fun _ hk => hk) trivial (dT) (Nat.le_trans (Nat.mul_le_mul_right _ (dT : (l0_0.length : Int).toNat ≤ 35184372088832)) (by omega)) (Below.refl _ _) (Nat.le_refl _) ?_; intro v381 w7 ho8 hb hg_ hnew_; clear hg_ hnew_; (first | rw [← Ny380.out] at ho8 | (simp only [Int.reduceToNat] at ho8; rw [← Ny380.out] at ho8)); have HO382 := rL ho8 HB; replace BK379 := kB BK379 hb; replace HB := bS HB hb; clear hb ho8))
  go_loopg [6] k (fun kq v6 w' => ∃ (x5_1 : List Int) (x6_1 : Int), v6 = .int .i64 x6_1 ∧ Aside0 (spec_l2Names.l0 kq a1 x5_1 x6_1 l0_0 l0_1 = some r) ∧ Aside0 (kq ≤ k) ∧ Aside0 (Kd.R (Kd.int .i64) 3 w' w.heap.size (fun _ => True) v381 x5_1) ∧ Aside0 (w'.heap[gb379]? = some (.cells #[(.slice A0_0 l0_0.length c0_0), (.slice A0_1 l0_1.length c0_1)] 25 (0, 0))) ∧ Aside0 (Below w.heap.size w w'))
  case atStart => exact ⟨(y380), (0), eS, H', ⟨Nat.le_refl _⟩, ⟨rP HO382⟩, ⟨kP BK379⟩, ⟨bP HB⟩⟩
  case round =>
   clear H'
   try clear p2
   try clear c3
   try clear c3b0
   try clear c3b1
   try clear c4
   try clear c4b0
   try clear c4b1
   try clear hcz6_0
   try clear hcz6_1
   try clear hfz6_0
   try clear hfz6_1
   obtain ⟨x5_1, x6_1, rfl, HA, HK1, HO_5, BK379, HB⟩ := hrel
   cases gk with
   | zero => exact absurd HA.out (by simp [spec_l2Names.l0])
   | succ k1 =>
    have H := HA.out
    clear HA
    simp only [spec_l2Names.l0] at H
    by_cases c9 : x6_1 < (x5_1.length : Int)
    ·rw [if_pos c9] at H
     have c9b0 : decide (x6_1 < (x5_1.length : Int)) = true := decide_eq_true c9
     clear c9
     by_cases c10 : 0 ≤ x6_1
     case neg =>
      rw [if_neg c10] at H
      exact absurd H (by simp)
     rw [if_pos c10] at H
     have c10b0 : decide (0 ≤ x6_1) = true := decide_eq_true c10
     clear c10
     obtain ⟨y383, hy383⟩ : ∃ y_ : List Int, y_ = (x5_1.set (x6_1 : Int).toNat (-1)) := ⟨_, rfl⟩
     replace H : (spec_l2Names.l0 k1 a1 y383 (wrap64 (x6_1 + 1)) l0_0 l0_1) = some r := by first | (rw [hy383]; with_reducible exact H) | (have H2_ := (Option.bind_some _ _).symm.trans H; rw [hy383]; with_reducible exact H2_) | (have H2_ := (Option.bind_some _ _).symm.trans H; with_reducible exact H2_) | with_reducible exact H | (rw [hy383]; exact H) | exact H
     have Ny383 := Aside0.mk hy383
     clear hy383
     have H' := Aside0.mk H
     clear H
     obtain ⟨Ao12, co12, eo12⟩ := Kd.R_slice HO_5.out
     subst eo12
     have p11 : 0 ≤ (x6_1 : Int) := dT
     have q11 : (x6_1 : Int) < ((x5_1.length : Int) : Int) := dT
     obtain ⟨go11, co11, eo11, gb11, gl11, cl11, HG11⟩ := Kd.R_form HO_5.out (by omega)
     (first | cases eo11 | (injection eo11 with ea_ en_ ec_; (first | subst ea_ | (injection ea_ with ea_; subst ea_)); subst ec_; clear en_))
     have GB11 := Aside0.mk gb11
     have GG11 := Aside0.mk HG11
     clear gb11 gl11 HG11
     obtain ⟨hx11_0, hf11_0⟩ := Kd.R_celln 0 HO_5.out (x6_1 : Int) p11 q11
     replace p11 := eq_true p11
     replace q11 := eq_true q11
     have HP13 := Kd.R_putg HO_5.out (x6_1 : Int) (-1)
     go_wp2_with (first | ((with_reducible refine gate_store (t := 3) (p := 23) rfl ?_); refine store_event (t := 3) (p := 23) (v := ?vo_w14) (w1 := (wr.setCell ⟨go11, (x6_1 : Int).toNat, none⟩ (.int .i64 (-1)))) ?hg ?ho ?hn ?hr ?_; (case ho => rfl); (case hg => rfl); (case hn => rfl); (case hr => first | (go_simp; done) | (go_simp; rfl)); intro w14 hw; have hg : wr.grownBy w14 (some go11) := (by rw [hw]; exact HP13.2); have hp_ : Kd.R (Kd.int .i64) 3 w14 w.heap.size (fun _ => True) (.slice (some ⟨go11, 0, none⟩) x5_1.length co12) y383 := (by rw [hw, Ny383.out]; exact HP13.1); clear HP13; replace BK379 := Aside0.mk (blk_grown (g := gb379) (o := .cells #[.slice A0_0 l0_0.length c0_0, .slice A0_1 l0_1.length c0_1] 25 (0, 0)) (kP BK379) hg (Kd.R_ne HO_5.out BK379.out (by decide))); replace HO_5 := Aside0.mk (hp_); replace HB := Aside0.mk ((by rw [hw]; exact below_set (HB.out) GB11.out : Below w.heap.size w w14)); clear hg hw hp_))
     go_roundg k1
     case measure => have := HK1.out; omega
     case rel => exact ⟨(y383), (wrap64 (x6_1 + 1)), eS, H', ⟨by have := HK1.out; omega⟩, ⟨rP HO_5⟩, ⟨kP BK379⟩, ⟨bP HB⟩⟩
    rw [if_neg c9] at H
    have c9b0 : decide (x6_1 < (x5_1.length : Int)) = false := decide_eq_false c9
    clear c9
    by_cases c15 : 0 ≤ a1
    case neg =>
     rw [if_neg c15] at H
     exact absurd H (by simp)
    rw [if_pos c15] at H
    have c15b0 : decide (0 ≤ a1) = true := decide_eq_true c15
    clear c15
    by_cases c16 : a1 < (x5_1.length : Int)
    case neg =>
     rw [if_neg c16] at H
     exact absurd H (by simp)
    rw [if_pos c16] at H
    have c16b0 : decide (a1 < (x5_1.length : Int)) = true := decide_eq_true c16
    clear c16
    obtain ⟨y384, hy384⟩ : ∃ y_ : List Int, y_ = (x5_1.set (a1 : Int).toNat 0) := ⟨_, rfl⟩
    replace H : (spec_l2Names.l1 k1 y384 (([a1] : List Int)) 0 l0_0 l0_1) = some r := by first | (rw [hy384]; with_reducible exact H) | (have H2_ := (Option.bind_some _ _).symm.trans H; rw [hy384]; with_reducible exact H2_) | (have H2_ := (Option.bind_some _ _).symm.trans H; with_reducible exact H2_) | with_reducible exact H | (rw [hy384]; exact H) | exact H
    have Ny384 := Aside0.mk hy384
    clear hy384
    obtain ⟨y385, hy385⟩ : ∃ y_ : List Int, y_ = (([a1] : List Int)) := ⟨_, rfl⟩
    replace H : (spec_l2Names.l1 k1 y384 y385 0 l0_0 l0_1) = some r := by first | (rw [hy385]; with_reducible exact H) | (have H2_ := (Option.bind_some _ _).symm.trans H; rw [hy385]; with_reducible exact H2_) | (have H2_ := (Option.bind_some _ _).symm.trans H; with_reducible exact H2_) | with_reducible exact H | (rw [hy385]; exact H) | exact H
    have Ny385 := Aside0.mk hy385
    clear hy385
    have H' := Aside0.mk H
    clear H
    obtain ⟨Ao18, co18, eo18⟩ := Kd.R_slice HO_5.out
    subst eo18
    have p17 : 0 ≤ (a1 : Int) := dT
    have q17 : (a1 : Int) < ((x5_1.length : Int) : Int) := dT
    obtain ⟨go17, co17, eo17, gb17, gl17, cl17, HG17⟩ := Kd.R_form HO_5.out (by omega)
    (first | cases eo17 | (injection eo17 with ea_ en_ ec_; (first | subst ea_ | (injection ea_ with ea_; subst ea_)); subst ec_; clear en_))
    have GB17 := Aside0.mk gb17
    have GG17 := Aside0.mk HG17
    clear gb17 gl17 HG17
    obtain ⟨hx17_0, hf17_0⟩ := Kd.R_celln 0 HO_5.out (a1 : Int) p17 q17
    replace p17 := eq_true p17
    replace q17 := eq_true q17
    have HP19 := Kd.R_putg HO_5.out (a1 : Int) 0
    go_wp2_with (first | ((with_reducible refine gate_store (t := 3) (p := 26) rfl ?_); refine store_event (t := 3) (p := 26) (v := ?vo_w20) (w1 := (wr.setCell ⟨go17, (a1 : Int).toNat, none⟩ (.int .i64 0))) ?hg ?ho ?hn ?hr ?_; (case ho => rfl); (case hg => rfl); (case hn => rfl); (case hr => first | (go_simp; done) | (go_simp; rfl)); intro w20 hw; have hg : wr.grownBy w20 (some go17) := (by rw [hw]; exact HP19.2); have hp_ : Kd.R (Kd.int .i64) 3 w20 w.heap.size (fun _ => True) (.slice (some ⟨go17, 0, none⟩) x5_1.length co18) y384 := (by rw [hw, Ny384.out]; exact HP19.1); clear HP19; replace BK379 := Aside0.mk (blk_grown (g := gb379) (o := .cells #[.slice A0_0 l0_0.length c0_0, .slice A0_1 l0_1.length c0_1] 25 (0, 0)) (kP BK379) hg (Kd.R_ne HO_5.out BK379.out (by decide))); replace HO_5 := Aside0.mk (hp_); replace HB := Aside0.mk ((by rw [hw]; exact below_set (HB.out) GB17.out : Below w.heap.size w w20)); clear hg hw hp_) | ((with_reducible refine gate_dst (N := 28) rfl ?_); refine Kd.R_lit (Kd.int .i64) _ 3 ?hg (N := 28) ?hd (xs := ([a1] : List Int)) (inner := [.int .i64 a1]) (ok := fun _ => True) (okp := fun _ => True) ?hr ?hp (fun _ hk => hk) trivial (Below.refl _ _) (Nat.le_refl _) (by simp) ?_; (case hd => rfl); (case hg => rfl); (case hr => first | (go_simp; done) | (go_simp; rfl)); (case hp => exact (Reps.one (show Kd.M (Kd.int .i64) _ _ _ a1 [.int .i64 a1] from rfl) (Reps.none _ _))); intro v386 w21 ho22 hb hg_ hnew_; clear hg_ hnew_; (first | rw [← Ny385.out] at ho22 | (simp only [Int.reduceToNat] at ho22; rw [← Ny385.out] at ho22)); have HO387 := Aside0.mk (Kd.R_lower (Kd.R_new' ho22 (Kd.R_lt (rP HO_5))) (below_size (bP HB))); replace HO_5 := Aside0.mk (Kd.R_elder' (rP HO_5) (Kd.R_base ho22) hb); replace BK379 := kB BK379 hb; replace HB := bS HB hb; clear hb ho22))
    go_loopg [7, 8] k1 (fun kq v7 v8 w' => ∃ (x5_2 : List Int) (x7_2 : List Int) (x8_2 : Int), v8 = .int .i64 x8_2 ∧ Aside0 (spec_l2Names.l1 kq x5_2 x7_2 x8_2 l0_0 l0_1 = some r) ∧ Aside0 (kq ≤ k1) ∧ Aside0 (Kd.R (Kd.int .i64) 3 w' w.heap.size (fun k_ => some k_ ≠ (v7 : Value).ownBlock) (.slice (some ⟨go17, 0, none⟩) x5_1.length co18) x5_2) ∧ Aside0 (Kd.R (Kd.int .i64) 3 w' w.heap.size (fun k_ => some k_ ≠ ((.slice (some ⟨go17, 0, none⟩) x5_1.length co18) : Value).ownBlock) v7 x7_2) ∧ Aside0 (w'.heap[gb379]? = some (.cells #[(.slice A0_0 l0_0.length c0_0), (.slice A0_1 l0_1.length c0_1)] 25 (0, 0))) ∧ Aside0 (Below w.heap.size w w'))
    case atStart => exact ⟨(y384), (y385), (0), eS, H', ⟨Nat.le_refl _⟩, ⟨rT (Kd.R_mono HO_5.out (fun _ hk => hk.2))⟩, ⟨rT (Kd.R_mono HO387.out (fun _ hk => hk.2))⟩, ⟨kP BK379⟩, ⟨bP HB⟩⟩
    case round =>
     clear H'
     try clear c1
     try clear p1
     try clear q1
     try clear hx1
     try clear p2
     try clear c3
     try clear c3b0
     try clear c3b1
     try clear c4
     try clear c4b0
     try clear c4b1
     try clear p6
     try clear c9
     try clear c9b0
     try clear c10
     try clear c10b0
     try clear p11
     try clear q11
     try clear hx11
     try clear hf11
     try clear c15
     try clear c15b0
     try clear c16
     try clear c16b0
     try clear p17
     try clear q17
     try clear hx17
     try clear hf17
     try clear hcz6_0
     try clear hcz6_1
     try clear hfz6_0
     try clear hfz6_1
     try clear hx11_0
     try clear hx17_0
     try clear p11
     try clear p17
     try clear p2
     try clear q11
     try clear q17
     obtain ⟨x5_2, x7_2, x8_2, rfl, HA, HK2, HO_5, HO_7, BK379, HB⟩ := hrel
     have hl5_2 := (Kd.R_reads' HO_5.out).1
     rw [hl5_2] at HO_5
     (try simp only [hl5_2])
     (try simp only [hl5_2] at BK379)
     (try simp only [hl5_2] at HO_7)
     cases gk with
     | zero => exact absurd HA.out (by simp [spec_l2Names.l1])
     | succ k2 =>
      have H := HA.out
      clear HA
      simp only [spec_l2Names.l1] at H
      by_cases c23 : x8_2 < (x7_2.length : Int)
      case neg =>
       rw [if_neg c23] at H
       have c23b0 : decide (x8_2 < (x7_2.length : Int)) = false := decide_eq_false c23
       clear c23
       obtain rfl := Option.some.inj H
       obtain ⟨Ao46, co46, eo46⟩ := Kd.R_slice HO_7.out
       subst eo46
       go_wp2
       go_ret
       exact ⟨_, eR, rT (Kd.R_mono HO_5.out (fun _ hk => trivial)), bP HB⟩
      rw [if_pos c23] at H
      have c23b0 : decide (x8_2 < (x7_2.length : Int)) = true := decide_eq_true c23
      clear c23
      by_cases c24 : 0 ≤ x8_2
      case neg =>
       rw [if_neg c24] at H
       exact absurd H (by simp)
      rw [if_pos c24] at H
      have c24b0 : decide (0 ≤ x8_2) = true := decide_eq_true c24
      clear c24
      by_cases c25 : 0 ≤ (rd x7_2 x8_2)
      case neg =>
       rw [if_neg c25] at H
       exact absurd H (by simp)
      rw [if_pos c25] at H
      have c25b0 : decide (0 ≤ (rd x7_2 x8_2)) = true := decide_eq_true c25
      clear c25
      by_cases c26 : (rd x7_2 x8_2) < (l0_0.length : Int)
      case neg =>
       rw [if_neg c26] at H
       exact absurd H (by simp)
      rw [if_pos c26] at H
      have c26b0 : decide ((rd x7_2 x8_2) < (l0_0.length : Int)) = true := decide_eq_true c26
      clear c26
      by_cases c27 : (rd x7_2 x8_2) < (l0_1.length : Int)
      case neg =>
       rw [if_neg c27] at H
       exact absurd H (by simp)
      rw [if_pos c27] at H
      have c27b0 : decide ((rd x7_2 x8_2) < (l0_1.length : Int)) = true := decide_eq_true c27
      clear c27
      obtain ⟨y392, hy392⟩ : ∃ y_ : List Int, y_ = (([rd l0_0 (rd x7_2 x8_2), rd l0_1 (rd x7_2 x8_2)] : List Int)) := ⟨_, rfl⟩
      replace H : (spec_l2Names.l2 k2 x5_2 x7_2 x8_2 y392 0 l0_0 l0_1) = some r := by first | (rw [hy392]; with_reducible exact H) | (have H2_ := (Option.bind_some _ _).symm.trans H; rw [hy392]; with_reducible exact H2_) | (have H2_ := (Option.bind_some _ _).symm.trans H; with_reducible exact H2_) | with_reducible exact H | (rw [hy392]; exact H) | exact H
      have Ny392 := Aside0.mk hy392
      clear hy392
      have H' := Aside0.mk H
      clear H
      obtain ⟨Ao28, co28, eo28⟩ := Kd.R_slice HO_7.out
      subst eo28
      try go_wp2
      replace HO_5 := Aside0.mk (Kd.R_drew HO_5.out)
      replace HO_7 := Aside0.mk (Kd.R_drew HO_7.out)
      replace BK379 := Aside0.mk (blk_drew BK379.out)
      replace HB := Aside0.mk (below_drew1 HB.out)
      have p388 : 0 ≤ (x8_2 : Int) := dT
      have q388 : x8_2 < (x7_2.length : Int) := dT
      obtain ⟨ad388, e388, hx388_0⟩ := Kd.at_int (Kd.R_reads' HO_7.out).2.2 x8_2 p388 q388
      cases e388
      replace p388 := eq_true p388
      replace q388 := eq_true q388
      have p389 : 0 ≤ ((rd x7_2 x8_2) : Int) := dT
      have q389 : (rd x7_2 x8_2) < (l0_0.length : Int) := dT
      obtain ⟨ad389, e389, hx389_0⟩ := Kd.at_int HR0_0.out (rd x7_2 x8_2) p389 q389
      have hw389_0 := hx389_0
      cases e389
      replace hx389_0 := (HB.out.cell (World.block_lt_of_cell? w _ hx389_0)).trans hx389_0
      replace p389 := eq_true p389
      replace q389 := eq_true q389
      have p390 : 0 ≤ (x8_2 : Int) := dT
      have q390 : x8_2 < (x7_2.length : Int) := dT
      obtain ⟨ad390, e390, hx390_0⟩ := Kd.at_int (Kd.R_reads' HO_7.out).2.2 x8_2 p390 q390
      obtain rfl : ad388 = ad390 := (by injection e390)
      replace p390 := eq_true p390
      replace q390 := eq_true q390
      have p391 : 0 ≤ ((rd x7_2 x8_2) : Int) := dT
      have q391 : (rd x7_2 x8_2) < (l0_1.length : Int) := dT
      obtain ⟨ad391, e391, hx391_0⟩ := Kd.at_int HR0_1.out (rd x7_2 x8_2) p391 q391
      have hw391_0 := hx391_0
      cases e391
      replace hx391_0 := (HB.out.cell (World.block_lt_of_cell? w _ hx391_0)).trans hx391_0
      replace p391 := eq_true p391
      replace q391 := eq_true q391
      refine start_ (n := 18) (S := fun w' => w'.cell? ⟨gb379, 0, none⟩ = some (.slice (some ad389) l0_0.length c0_0) ∧ w'.cell? ⟨gb379, 1, none⟩ = some (.slice (some ad391) l0_1.length c0_1) ∧ w'.cell? (ad388.add (x8_2).toNat) = some (.int .i64 (rd x7_2 x8_2)) ∧ w'.cell? (ad389.add ((rd x7_2 x8_2)).toNat) = some (.int .i64 (rd l0_0 (rd x7_2 x8_2))) ∧ w'.cell? (ad388.add (x8_2).toNat) = some (.int .i64 (rd x7_2 x8_2)) ∧ w'.cell? (ad391.add ((rd x7_2 x8_2)).toNat) = some (.int .i64 (rd l0_1 (rd x7_2 x8_2)))) (ds := []) (tf 0 18) (by kernel_rfl) rfl rfl ⟨(blk_cell BK379.out 0).trans rfl, (blk_cell BK379.out 1).trans rfl, hx388_0, ((HB.out.cell (World.block_lt_of_cell? w _ hw389_0)).trans hw389_0), hx390_0, ((HB.out.cell (World.block_lt_of_cell? w _ hw391_0)).trans hw391_0)⟩ (fun hHeld => ?_); refine with_tabW spec_l2Names.tab11 spec_l2Names.bits11 (fun HT_ HW_ => ?_)
      generalize wr.drew = w29 at HO_5 HO_7 BK379 HB hx388_0 hx389_0 hx390_0 hx391_0 hHeld ⊢
      refine pV 0 35 (tf 1 17) HT_ ?_
      refine pV 2 37 (tB 18 5) HT_ ?_
      refine pV 3 38 (tB 18 13) HT_ ?_
      refine pV 4 39 (tB 18 29) HT_ ?_
      refine pV 8 43 (tB 18 285) HT_ ?_
      refine pV 10 45 (tB 18 1309) HT_ ?_
      refine pV 11 46 (tB 18 3357) HT_ ?_
      refine pV 12 47 (tB 18 7453) HT_ ?_
      refine tV 1 36 (tB 18 7455) HT_ HW_ hHeld ?_
      refine tV 5 40 (tB 18 7487) HT_ HW_ hHeld ?_
      refine pV 6 41 (tB 18 7551) HT_ ?_
      refine tV 7 42 (tB 18 7679) HT_ HW_ hHeld ?_
      refine tV 9 44 (tf 13 5) HT_ HW_ hHeld ?_
      refine tV 13 48 (tf 14 4) HT_ HW_ hHeld ?_
      refine pV 14 49 (tf 15 3) HT_ ?_
      refine tV 15 50 (tf 16 2) HT_ HW_ hHeld ?_
      refine eN 16 (some 51) (tf 17 1) HT_ (fun K hK => ?_)
      refine Kd.R_lit_step (Kd.int .i64) _ 3 ?hg (N := 51) ?hd (xs := ([rd l0_0 (rd x7_2 x8_2), rd l0_1 (rd x7_2 x8_2)] : List Int)) (inner := [.int .i64 (rd l0_0 (rd x7_2 x8_2)), .int .i64 (rd l0_1 (rd x7_2 x8_2))]) (ok := fun _ => True) (okp := fun _ => True) ?hr ?hp (fun _ hk => hk) trivial (Below.refl _ _) (Nat.le_refl _) (by simp) ?_; (case hd => rfl); (case hg => rfl); (case hr => first | (go_simp; done) | (go_simp; rfl)); (case hp => exact (Reps.one (show Kd.M (Kd.int .i64) _ _ _ (rd l0_0 (rd x7_2 x8_2)) [.int .i64 (rd l0_0 (rd x7_2 x8_2))] from rfl) (Reps.one (show Kd.M (Kd.int .i64) _ _ _ (rd l0_1 (rd x7_2 x8_2)) [.int .i64 (rd l0_1 (rd x7_2 x8_2))] from rfl) (Reps.none _ _))))
      intro v393 w30 ho31 hb hg_ hnew_
      have HS2_ := (hb.cell (World.block_lt_of_cell? _ _ (hHeld.2.2.1))).trans (hHeld.2.2.1)
      have HS4_ := (hb.cell (World.block_lt_of_cell? _ _ (hHeld.2.2.2.2.1))).trans (hHeld.2.2.2.2.1)
      clear hg_ hnew_
      (first | rw [← Ny392.out] at ho31 | (simp only [Int.reduceToNat] at ho31; rw [← Ny392.out] at ho31))
      have HO394 := Aside0.mk (Kd.R_lower (Kd.R_new' (Kd.R_new' ho31 (Kd.R_lt (rP HO_5))) (Kd.R_lt (rP HO_7))) (below_size (bP HB)))
      replace HO_5 := Aside0.mk (Kd.R_elder' (rP HO_5) (Kd.R_base ho31) hb)
      replace HO_7 := Aside0.mk (Kd.R_elder' (rP HO_7) (Kd.R_base ho31) hb)
      replace BK379 := kB BK379 hb
      replace HB := bS HB hb
      clear hb ho31
      refine hK.out _ _ ⟨(blk_cell BK379.out 0).trans rfl, (blk_cell BK379.out 1).trans rfl, HS2_, ((HB.out.cell (World.block_lt_of_cell? w _ hw389_0)).trans hw389_0), HS4_, ((HB.out.cell (World.block_lt_of_cell? w _ hw391_0)).trans hw391_0)⟩ (fun hHeld => ?_)
      clear hK K
      refine norm_ (a' := ?_) ?_ ?_
      rotate_left
      ·show Act.put _ (some 51) _ = _
       simp only [Act.put, List.setIfInBounds_toArray, List.set_cons_zero, List.set_cons_succ, i64_w, i32_w]
       rfl
      refine pV 17 9 (tf 18 0) HT_ ?_
      refine done_ (done_of HT_.out (by kernel_rfl)) ?_
      try go_wp2
      go_loopg [7, 10] k2 (fun kq v7 v10 w' => ∃ (x5_3 : List Int) (x7_3 : List Int) (x10_3 : Int), v10 = .int .i64 x10_3 ∧ Aside0 (spec_l2Names.l2 kq x5_3 x7_3 x8_2 y392 x10_3 l0_0 l0_1 = some r) ∧ Aside0 (kq ≤ k2) ∧ Aside0 (Kd.R (Kd.int .i64) 3 w' w.heap.size (fun k_ => some k_ ≠ (v7 : Value).ownBlock ∧ some k_ ≠ (v393 : Value).ownBlock) (.slice (some ⟨go17, 0, none⟩) x5_2.length co18) x5_3) ∧ Aside0 (Kd.R (Kd.int .i64) 3 w' w.heap.size (fun k_ => some k_ ≠ ((.slice (some ⟨go17, 0, none⟩) x5_2.length co18) : Value).ownBlock ∧ some k_ ≠ (v393 : Value).ownBlock) v7 x7_3) ∧ Aside0 (Kd.R (Kd.int .i64) 3 w' w.heap.size (fun k_ => some k_ ≠ ((.slice (some ⟨go17, 0, none⟩) x5_2.length co18) : Value).ownBlock ∧ some k_ ≠ (v7 : Value).ownBlock) v393 y392) ∧ Aside0 (w'.heap[gb379]? = some (.cells #[(.slice (some ad389) l0_0.length c0_0), (.slice (some ad391) l0_1.length c0_1)] 25 (0, 0))) ∧ Aside0 (Below w.heap.size w w'))
      case atStart => exact ⟨(x5_2), (x7_2), (0), eS, H', ⟨Nat.le_refl _⟩, ⟨by (try simp only [hl5_2]); (with_reducible repeat (first | apply Kd.R_alloc | apply Kd.R_drewN | apply Kd.R_drew)); exact HO_5.out⟩, ⟨by (try simp only [hl5_2]); (with_reducible repeat (first | apply Kd.R_alloc | apply Kd.R_drewN | apply Kd.R_drew)); exact HO_7.out⟩, ⟨by (try simp only [hl5_2]); (with_reducible repeat (first | apply Kd.R_alloc | apply Kd.R_drewN | apply Kd.R_drew)); exact Kd.R_mono HO394.out (fun _ hk => ⟨hk.1.2, hk.2⟩)⟩, ⟨by (try simp only [hl5_2]); (with_reducible repeat (first | refine blk_drewN ?_ _ | refine blk_drew ?_ | refine blk_alloc ?_ _)); exact BK379.out⟩, ⟨bP HB⟩⟩
      case round =>
       clear H'
       try clear c1
       try clear p1
       try clear q1
       try clear hx1
       try clear c2
       try clear p2
       try clear c3
       try clear c3b0
       try clear c3b1
       try clear p3
       try clear q3
       try clear hx3
       try clear c4
       try clear c4b0
       try clear c4b1
       try clear p6
       try clear c9
       try clear c9b0
       try clear c10
       try clear c10b0
       try clear p11
       try clear q11
       try clear hx11
       try clear hf11
       try clear c15
       try clear c15b0
       try clear c16
       try clear c16b0
       try clear p17
       try clear q17
       try clear hx17
       try clear hf17
       try clear c23
       try clear c23b0
       try clear c24
       try clear c24b0
       try clear c25
       try clear c25b0
       try clear c26
       try clear c26b0
       try clear c27
       try clear c27b0
       try clear hcz6_0
       try clear hcz6_1
       try clear hfz6_0
       try clear hfz6_1
       try clear hx11_0
       try clear hx17_0
       try clear hx388_0
       try clear hx389_0
       try clear hx390_0
       try clear hx391_0
       try clear p1
       try clear p11
       try clear p17
       try clear p2
       try clear p388
       try clear p389
       try clear p390
       try clear p391
       try clear p6
       try clear q1
       try clear q11
       try clear q17
       try clear q388
       try clear q389
       try clear q390
       try clear q391
       obtain ⟨x5_3, x7_3, x10_3, rfl, HA, HK3, HO_5, HO_7, HO_9, BK379, HB⟩ := hrel
       have hl5_3 := (Kd.R_reads' HO_5.out).1
       rw [hl5_3] at HO_5
       (try simp only [hl5_3])
       (try simp only [hl5_3] at BK379)
       (try simp only [hl5_3] at HO_7)
       (try simp only [hl5_3] at HO_9)
       cases gk with
       | zero => exact absurd HA.out (by simp [spec_l2Names.l2])
       | succ k3 =>
        have H := HA.out
        clear HA
        simp only [spec_l2Names.l2] at H
        by_cases c32 : x10_3 < 2
        case neg =>
         rw [if_neg c32] at H
         have c32b0 : decide (x10_3 < 2) = false := decide_eq_false c32
         clear c32
         have H' := Aside0.mk H
         clear H
         go_wp2
         (try simp only [← hl5_2, ← hl5_3])
         go_roundg k3
         case measure => have := HK1.out; have := HK2.out; have := HK3.out; omega
         case rel => exact ⟨(x5_3), (x7_3), (wrap64 (x8_2 + 1)), eS, H', ⟨by have := HK1.out; have := HK2.out; have := HK3.out; omega⟩, ⟨by (try simp only [hl5_2]); (try simp only [hl5_3]); (with_reducible repeat (first | apply Kd.R_alloc | apply Kd.R_drewN | apply Kd.R_drew)); exact Kd.R_mono HO_5.out (fun _ hk => hk.1)⟩, ⟨by (try simp only [hl5_2]); (try simp only [hl5_3]); (with_reducible repeat (first | apply Kd.R_alloc | apply Kd.R_drewN | apply Kd.R_drew)); exact Kd.R_mono HO_7.out (fun _ hk => hk.1)⟩, ⟨by (try simp only [hl5_2]); (try simp only [hl5_3]); (with_reducible repeat (first | refine blk_drewN ?_ _ | refine blk_drew ?_ | refine blk_alloc ?_ _)); exact BK379.out⟩, ⟨bP HB⟩⟩
        rw [if_pos c32] at H
        have c32b0 : decide (x10_3 < 2) = true := decide_eq_true c32
        clear c32
        by_cases c33 : 0 ≤ x10_3
        case neg =>
         rw [if_neg c33] at H
         exact absurd H (by simp)
        rw [if_pos c33] at H
        have c33b0 : decide (0 ≤ x10_3) = true := decide_eq_true c33
        clear c33
        by_cases c34 : x10_3 < (y392.length : Int)
        case neg =>
         rw [if_neg c34] at H
         exact absurd H (by simp)
        rw [if_pos c34] at H
        have c34b0 : decide (x10_3 < (y392.length : Int)) = true := decide_eq_true c34
        clear c34
        by_cases c35 : 0 ≤ (rd y392 x10_3)
        case neg =>
         rw [if_neg c35] at H
         exact absurd H (by simp)
        rw [if_pos c35] at H
        have c35b0 : decide (0 ≤ (rd y392 x10_3)) = true := decide_eq_true c35
        clear c35
        by_cases c36 : (rd y392 x10_3) < (x5_3.length : Int)
        case neg =>
         rw [if_neg c36] at H
         exact absurd H (by simp)
        rw [if_pos c36] at H
        have c36b0 : decide ((rd y392 x10_3) < (x5_3.length : Int)) = true := decide_eq_true c36
        clear c36
        by_cases c37 : (rd x5_3 (rd y392 x10_3)) < 0
        case neg =>
         rw [if_neg c37] at H
         have c37b0 : decide ((rd x5_3 (rd y392 x10_3)) < 0) = false := decide_eq_false c37
         clear c37
         have H' := Aside0.mk H
         clear H
         obtain ⟨Ao45, co45, eo45⟩ := Kd.R_slice HO_9.out
         subst eo45
         have p395 : 0 ≤ (x10_3 : Int) := dT
         have q395 : x10_3 < (y392.length : Int) := dT
         obtain ⟨ad395, e395, hx395_0⟩ := Kd.at_int (Kd.R_reads' HO_9.out).2.2 x10_3 p395 q395
         cases e395
         replace p395 := eq_true p395
         replace q395 := eq_true q395
         have p396 : 0 ≤ ((rd y392 x10_3) : Int) := dT
         have q396 : (rd y392 x10_3) < (x5_3.length : Int) := dT
         obtain ⟨ad396, e396, hx396_0⟩ := Kd.at_int (Kd.R_reads' HO_5.out).2.2 (rd y392 x10_3) p396 q396
         obtain rfl : (⟨go17, 0, none⟩ : Addr) = ad396 := (by injection e396)
         (first | simp only [add_plain] at hx396_0 | simp only [add_at] at hx396_0 | simp only [Addr.add, Nat.zero_add] at hx396_0 | skip)
         replace p396 := eq_true p396
         replace q396 := eq_true q396
         go_wp2
         (try simp only [← hl5_3])
         go_roundg k3
         case measure => have := HK1.out; have := HK2.out; have := HK3.out; omega
         case rel => exact ⟨(x5_3), (x7_3), (wrap64 (x10_3 + 1)), eS, H', ⟨by have := HK1.out; have := HK2.out; have := HK3.out; omega⟩, ⟨by (try simp only [hl5_2]); (try simp only [hl5_3]); (with_reducible repeat (first | apply Kd.R_alloc | apply Kd.R_drewN | apply Kd.R_drew)); exact HO_5.out⟩, ⟨by (try simp only [hl5_2]); (try simp only [hl5_3]); (with_reducible repeat (first | apply Kd.R_alloc | apply Kd.R_drewN | apply Kd.R_drew)); exact HO_7.out⟩, ⟨by (try simp only [hl5_2]); (try simp only [hl5_3]); (with_reducible repeat (first | apply Kd.R_alloc | apply Kd.R_drewN | apply Kd.R_drew)); exact HO_9.out⟩, ⟨by (try simp only [hl5_2]); (try simp only [hl5_3]); (with_reducible repeat (first | refine blk_drewN ?_ _ | refine blk_drew ?_ | refine blk_alloc ?_ _)); exact BK379.out⟩, ⟨bP HB⟩⟩
        rw [if_pos c37] at H
        have c37b0 : decide ((rd x5_3 (rd y392 x10_3)) < 0) = true := decide_eq_true c37
        clear c37
        obtain ⟨y398, hy398⟩ : ∃ y_ : List Int, y_ = (x5_3.set ((rd y392 x10_3) : Int).toNat (x7_3.length : Int)) := ⟨_, rfl⟩
        replace H : (if x7_3.length < 17592186044416 then (spec_l2Names.l2 k3 y398 (x7_3 ++ [rd y392 x10_3]) x8_2 y392 (wrap64 (x10_3 + 1)) l0_0 l0_1) else (none)) = some r := by first | (rw [hy398]; with_reducible exact H) | (have H2_ := (Option.bind_some _ _).symm.trans H; rw [hy398]; with_reducible exact H2_) | (have H2_ := (Option.bind_some _ _).symm.trans H; with_reducible exact H2_) | with_reducible exact H | (rw [hy398]; exact H) | exact H
        have Ny398 := Aside0.mk hy398
        clear hy398
        by_cases c39 : x7_3.length < 17592186044416
        case neg =>
         rw [if_neg c39] at H
         exact absurd H (by simp)
        rw [if_pos c39] at H
        have LMc39 := Aside0.mk c39
        clear c39
        obtain ⟨y400, hy400⟩ : ∃ y_ : List Int, y_ = (x7_3 ++ [rd y392 x10_3]) := ⟨_, rfl⟩
        replace H : (spec_l2Names.l2 k3 y398 y400 x8_2 y392 (wrap64 (x10_3 + 1)) l0_0 l0_1) = some r := by first | (rw [hy400]; with_reducible exact H) | (have H2_ := (Option.bind_some _ _).symm.trans H; rw [hy400]; with_reducible exact H2_) | (have H2_ := (Option.bind_some _ _).symm.trans H; with_reducible exact H2_) | with_reducible exact H | (rw [hy400]; exact H) | exact H
        have Ny400 := Aside0.mk hy400
        clear hy400
        have H' := Aside0.mk H
        clear H
        obtain ⟨Ao40, co40, eo40⟩ := Kd.R_slice HO_9.out
        subst eo40
        have p395 : 0 ≤ (x10_3 : Int) := dT
        have q395 : x10_3 < (y392.length : Int) := dT
        obtain ⟨ad395, e395, hx395_0⟩ := Kd.at_int (Kd.R_reads' HO_9.out).2.2 x10_3 p395 q395
        cases e395
        replace p395 := eq_true p395
        replace q395 := eq_true q395
        have p396 : 0 ≤ ((rd y392 x10_3) : Int) := dT
        have q396 : (rd y392 x10_3) < (x5_3.length : Int) := dT
        obtain ⟨ad396, e396, hx396_0⟩ := Kd.at_int (Kd.R_reads' HO_5.out).2.2 (rd y392 x10_3) p396 q396
        obtain rfl : (⟨go17, 0, none⟩ : Addr) = ad396 := (by injection e396)
        (first | simp only [add_plain] at hx396_0 | simp only [add_at] at hx396_0 | simp only [Addr.add, Nat.zero_add] at hx396_0 | skip)
        replace p396 := eq_true p396
        replace q396 := eq_true q396
        have p397 : 0 ≤ (x10_3 : Int) := dT
        have q397 : x10_3 < (y392.length : Int) := dT
        obtain ⟨ad397, e397, hx397_0⟩ := Kd.at_int (Kd.R_reads' HO_9.out).2.2 x10_3 p397 q397
        obtain rfl : ad395 = ad397 := (by injection e397)
        replace p397 := eq_true p397
        replace q397 := eq_true q397
        obtain ⟨Ao41, co41, eo41⟩ := Kd.R_slice HO_7.out
        subst eo41
        have p38 : 0 ≤ ((rd y392 x10_3) : Int) := dT
        have q38 : ((rd y392 x10_3) : Int) < ((x5_3.length : Int) : Int) := dT
        obtain ⟨hx38_0, hf38_0⟩ := Kd.R_celln 0 HO_5.out ((rd y392 x10_3) : Int) p38 q38
        replace p38 := eq_true p38
        replace q38 := eq_true q38
        have HP42 := Kd.R_putg HO_5.out ((rd y392 x10_3) : Int) (x7_3.length : Int)
        go_wp2_with (first | ((with_reducible refine gate_store (t := 3) (p := 71) rfl ?_); refine store_event (t := 3) (p := 71) (v := ?vo_w43) (w1 := (wr.setCell ⟨go17, ((rd y392 x10_3) : Int).toNat, none⟩ (.int .i64 (x7_3.length : Int)))) ?hg ?ho ?hn ?hr ?_; (case ho => rfl); (case hg => rfl); (case hn => rfl); (case hr => first | (go_simp; done) | (go_simp; rfl)); intro w43 hw; have hg : wr.grownBy w43 (some go17) := (by rw [hw]; exact HP42.2); have hp_ : Kd.R (Kd.int .i64) 3 w43 w.heap.size (fun k_ => some k_ ≠ (.slice Ao41 x7_3.length co41 : Value).ownBlock ∧ some k_ ≠ (.slice (some ad395) y392.length co40 : Value).ownBlock) (.slice (some ⟨go17, 0, none⟩) x5_3.length co18) y398 := (by rw [hw, Ny398.out]; exact HP42.1); clear HP42; replace HO_7 := Aside0.mk (Kd.R_after (v := (.slice (some ⟨go17, 0, none⟩) x5_3.length co18)) (v1 := (.slice (some ⟨go17, 0, none⟩) x5_3.length co18)) (ok := (fun k_ => some k_ ≠ (.slice (some ad395) y392.length co40 : Value).ownBlock)) (rT (Kd.R_mono HO_7.out (fun _ hk => ⟨hk.2, hk.1⟩))) hg (.inl rfl)); replace HO_9 := Aside0.mk (Kd.R_after (v := (.slice (some ⟨go17, 0, none⟩) x5_3.length co18)) (v1 := (.slice (some ⟨go17, 0, none⟩) x5_3.length co18)) (ok := (fun k_ => some k_ ≠ (.slice Ao41 x7_3.length co41 : Value).ownBlock)) (rT (Kd.R_mono HO_9.out (fun _ hk => ⟨hk.2, hk.1⟩))) hg (.inl rfl)); replace BK379 := Aside0.mk (blk_grown (g := gb379) (o := .cells #[.slice (some ad389) l0_0.length c0_0, .slice (some ad391) l0_1.length c0_1] 25 (0, 0)) (kP BK379) hg (Kd.R_ne HO_5.out BK379.out (by decide))); replace HO_5 := Aside0.mk (hp_); replace HB := Aside0.mk ((by rw [hw]; exact below_set (HB.out) GB17.out : Below w.heap.size w w43)); clear hg hw hp_; have p399 : 0 ≤ (x10_3 : Int) := dT; have q399 : x10_3 < (y392.length : Int) := dT; obtain ⟨ad399, e399, hx399_0⟩ := Kd.at_int (Kd.R_reads' HO_9.out).2.2 x10_3 p399 q399; obtain rfl : ad395 = ad399 := (by injection e399); replace p399 := eq_true p399; replace q399 := eq_true q399) | ((with_reducible refine gate_builtin (b := .append) (xs := #[.tmp 72, .tmp 77]) rfl ?_); at_builtin; refine Kd.R_append (Kd.int .i64) (w0 := w) w.heap.size rfl (.tmp 72) (.tmp 77) 23 3 (.int .i64 0) 8 rfl Try.underlying23 info3 rfl (by decide) (by omega) (.slice Ao41 x7_3.length co41) x7_3 (rd y392 x10_3) [.int .i64 (rd y392 x10_3)] (fun k_ => some k_ ≠ (.slice (some ⟨go17, 0, none⟩) x5_3.length co18 : Value).ownBlock ∧ some k_ ≠ (.slice (some ad395) y392.length co40 : Value).ownBlock) (fun _ => False) rfl rfl ?aP (fun _ hk => hk.elim) ?aF ?aO ?aB ?aS ?aL ?_; (case aP => exact rfl); (case aB => exact (bP HB)); (case aF => exact (fun k_ hk => ⟨Kd.fresh' (Kd.R_lt (rP HO_5)) k_ hk, Kd.fresh' (Kd.R_lt (rP HO_9)) k_ hk⟩)); (case aO => exact (rT (Kd.R_mono HO_7.out (fun _ hk => ⟨hk.2, hk.1⟩)))); (case aS => exact (below_size (bP HB))); (case aL => have := LMc39.out; omega); intro v401 w44 ho hb hg hat; rw [← Ny400.out] at ho; replace HO_5 := Aside0.mk (Kd.R_after (ok := (fun k_ => some k_ ≠ (.slice (some ad395) y392.length co40 : Value).ownBlock)) (rT (Kd.R_mono HO_5.out (fun _ hk => ⟨hk.2, hk.1⟩))) hg hat); replace HO_9 := Aside0.mk (Kd.R_after (ok := (fun k_ => some k_ ≠ (.slice (some ⟨go17, 0, none⟩) x5_3.length co18 : Value).ownBlock)) (rT (Kd.R_mono HO_9.out (fun _ hk => ⟨hk.2, hk.1⟩))) hg hat); replace BK379 := Aside0.mk (blk_grown (g := gb379) (o := .cells #[.slice (some ad389) l0_0.length c0_0, .slice (some ad391) l0_1.length c0_1] 25 (0, 0)) (kP BK379) hg (Kd.R_ne HO_7.out BK379.out (by decide))); replace HB := Aside0.mk (hb); have HO402 := Aside0.mk (ho); clear HO_7; clear ho hb hg hat))
        (try simp only [← hl5_3])
        go_roundg k3
        case measure => have := HK1.out; have := HK2.out; have := HK3.out; omega
        case rel => exact ⟨(y398), (y400), (wrap64 (x10_3 + 1)), eS, H', ⟨by have := HK1.out; have := HK2.out; have := HK3.out; omega⟩, ⟨by (try simp only [hl5_2]); (try simp only [hl5_3]); (with_reducible repeat (first | apply Kd.R_alloc | apply Kd.R_drewN | apply Kd.R_drew)); exact Kd.R_mono HO_5.out (fun _ hk => ⟨hk.2, hk.1⟩)⟩, ⟨by (try simp only [hl5_2]); (try simp only [hl5_3]); (with_reducible repeat (first | apply Kd.R_alloc | apply Kd.R_drewN | apply Kd.R_drew)); exact HO402.out⟩, ⟨by (try simp only [hl5_2]); (try simp only [hl5_3]); (with_reducible repeat (first | apply Kd.R_alloc | apply Kd.R_drewN | apply Kd.R_drew)); exact HO_9.out⟩, ⟨by (try simp only [hl5_2]); (try simp only [hl5_3]); (with_reducible repeat (first | refine blk_drewN ?_ _ | refine blk_drew ?_ | refine blk_alloc ?_ _)); exact BK379.out⟩, ⟨bP HB⟩⟩
 ·rw [if_neg c3] at H
  exact absurd H (by simp)

end Go.Proofs.Ytjnbbnaidjodlaa.F
