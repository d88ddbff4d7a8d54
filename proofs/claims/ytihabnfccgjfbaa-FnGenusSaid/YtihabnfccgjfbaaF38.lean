/- Contracts: what these Go functions return. -/
import Derived.Test.YtihabnfccgjfbaaF0
import Derived.Test.YtihabnfccgjfbaaF16
import Derived.Test.YtihabnfccgjfbaaF23
import Derived.Test.YtihabnfccgjfbaaF29
import Derived.Test.YtihabnfccgjfbaaF31
import Derived.Test.YtihabnfccgjfbaaF34
import Derived.Test.YtihabnfccgjfbaaF35
import Derived.Test.YtihabnfccgjfbaaF37
namespace Go.Proofs.Ytihabnfccgjfbaa.F
open Go.RowKit Go.Proofs.YtihabnfccgjfbaaW.PrintWords Go.Proofs.YtihabnfccgjfbaaW.PrintLast Go.Proofs.YtihabnfccgjfbaaW.PrintMore
attribute [local go_sem] max2_int min2_int max_two min_two max_three min_three max_four min_four
set_option linter.unusedVariables false
set_option linter.unusedSimpArgs false

/-! ### laws_FnGenus: function 6 -/
mutual
def laws_FnGenus.j0 : Nat → List Int → List Int → Bool → Option (Bool)
 | 0, _, _, _ => none
 | k + 1, x0, x1, x23 => if x23 = true then (some true) else ((spec_DrawMapGenus.f k x0).bind fun bt672 => ((impl_MapGenus.f k bt672.1 bt672.2).bind fun t679 => ((spec_MapGenus.f k bt672.1 bt672.2).bind fun t680 => (if t679 = t680 then (laws_FnGenus.j1 k x1 t679 t680 (decide (t679 < 0)) bt672.1 bt672.2) else (laws_FnGenus.j1 k x1 t679 t680 true bt672.1 bt672.2)))))
def laws_FnGenus.j1 : Nat → List Int → Int → Int → Bool → List Int → List Int → Option (Bool)
 | 0, _, _, _, _, _, _ => none
 | k + 1, x1, x6, x7, x36, x679000, x679001 => if x36 = true then (some (x6 == x7)) else ((impl_MapCounts.f k x679000 x679001).bind fun bt681 => ((impl_MapDual.f k x679000 x679001).bind fun bt685 => ((impl_MapMirror.f k x679000 x679001).bind fun bt693 => (if (x679000.length : Int) = 0 then (none) else ((impl_MapForm.f k x679000 x679001 ((x1.length : Int) % (x679000.length : Int))).bind fun bt701 => (if bt681.2 = true then (if bt685.2.2 = true then (if bt693.2.2 = true then (if bt701.2.2 = true then (if 0 < (bt681.1.length : Int) then (if 1 < (bt681.1.length : Int) then (if 2 < (bt681.1.length : Int) then (if (wrap64 ((wrap64 ((rd bt681.1 0) - (rd bt681.1 1))) + (rd bt681.1 2))) = (wrap64 (2 - (wrap64 (2 * x6)))) then (if x6 ≥ 0 then (if (wrap64 (2 * x6)) ≤ (rd bt681.1 1) then ((impl_MapGenus.f k bt685.1 bt685.2.1).bind fun t713 => (if t713 = x6 then ((impl_MapGenus.f k bt693.1 bt693.2.1).bind fun t714 => (if t714 = x6 then ((impl_MapGenus.f k bt701.1 bt701.2.1).bind fun t715 => (some (t715 == x6))) else (some false))) else (some false))) else (some false)) else (some false)) else (some false)) else (none)) else (none)) else (none)) else (some false)) else (some false)) else (some false)) else (some false)))))))
end
def laws_FnGenus.f (k : Nat) (l0 : List Int) (l1 : List Int) : Option (Bool) := if (l0.length : Int) > 1048576 then (laws_FnGenus.j0 k l0 l1 true) else (laws_FnGenus.j0 k l0 l1 (decide ((l1.length : Int) > 1048576)))
def laws_FnGenus.T11 : Bool × List (List Nat × List Nat) := (true, [([], []), ([], []), ([1], [1]), ([], []), ([3], [3]), ([4], [4]), ([2, 5], [2, 5]), ([0, 6], [0, 6]), ([7], [7]), ([8], [8]), ([8], [8]), ([], []), ([11, 9, 7, 0, 1, 2, 3, 4, 5, 6, 7, 8, 9, 11], [9, 11]), ([10, 12, 0, 1, 2, 3, 4, 5, 6, 7, 8, 9, 10, 11, 12], [10])])
def laws_FnGenus.B11 : List Nat := [0, 0, 2, 0, 8, 24, 62, 127, 255, 511, 511, 0, 3071, 8191]
theorem laws_FnGenus.tab11 : rtab .any (opsOf Try.f6 11) = laws_FnGenus.T11 := by kernel_rfl
theorem laws_FnGenus.bits11 : waitsOk laws_FnGenus.T11.2 laws_FnGenus.B11 = true := by kernel_rfl
def laws_FnGenus.T12 : Bool × List (List Nat × List Nat) := (true, [([], []), ([0], [0]), ([1], [1]), ([1, 2], [1, 2]), ([3, 1], [3]), ([4], [4]), ([4, 5], [4, 5]), ([6, 4], [6]), ([7], [7]), ([7, 8], [7, 8]), ([9, 7], [9]), ([10], [10]), ([11, 10], [10, 11]), ([12, 10], [10, 12]), ([10], [10]), ([14, 10], [10, 14]), ([15, 10], [10, 15]), ([13, 16, 10], [10, 13, 16]), ([10], [10]), ([18, 10], [10, 18]), ([19, 10], [10, 19]), ([17, 20, 10], [10, 17, 20]), ([10], [10]), ([22, 10], [10, 22]), ([23, 10], [10, 23]), ([21, 24, 10], [10, 21, 24]), ([10, 25], [10, 25]), ([26, 10], [26]), ([27], [27]), ([28, 27], [27, 28]), ([27, 29], [27, 29]), ([30, 27], [30]), ([31], [31]), ([32, 31], [31, 32]), ([31], [31]), ([34, 31], [31, 34]), ([35, 31], [31, 35]), ([33, 36, 31], [31, 33, 36]), ([31, 37], [31, 37]), ([38, 31], [38]), ([39], [39]), ([40, 39, 39], [39, 40]), ([39], [39]), ([41, 42, 39], [39, 41, 42]), ([39, 43], [39, 43]), ([44, 41], [44]), ([45], [45]), ([46, 45, 45], [45, 46]), ([45], [45]), ([47, 48, 45], [45, 47, 48]), ([45, 49], [45, 49]), ([50, 47], [50]), ([51], [51]), ([52, 51, 51], [51, 52]), ([51], [51]), ([53, 54, 51], [51, 53, 54]), ([51, 55], [51, 55]), ([56, 53, 0, 1, 2, 3, 4, 5, 6, 7, 8, 9, 10, 11, 12, 13, 14, 15, 16, 17, 18, 19, 20, 21, 22, 23, 24, 25, 26, 27, 28, 29, 30, 31, 32, 33, 34, 35, 36, 37, 38, 39, 40, 41, 42, 43, 44, 45, 46, 47, 48, 49, 50, 51, 52, 53, 54, 55, 56], [56])])
def laws_FnGenus.B12 : List Nat := [0, 1, 3, 7, 15, 31, 63, 127, 255, 511, 1023, 2047, 4095, 8191, 2047, 18431, 51199, 131071, 2047, 264191, 788479, 2097151, 2047, 4196351, 12584959, 33554431, 67108863, 134217727, 268435455, 536870911, 1073741823, 2147483647, 4294967295, 8589934591, 4294967295, 21474836479, 55834574847, 137438953471, 274877906943, 549755813887, 1099511627775, 2199023255551, 1099511627775, 8796093022207, 17592186044415, 35184372088831, 70368744177663, 140737488355327, 70368744177663, 562949953421311, 1125899906842623, 2251799813685247, 4503599627370495, 9007199254740991, 4503599627370495, 36028797018963967, 72057594037927935, 144115188075855871]
theorem laws_FnGenus.tab12 : rtab .any (opsOf Try.f6 12) = laws_FnGenus.T12 := by kernel_rfl
theorem laws_FnGenus.bits12 : waitsOk laws_FnGenus.T12.2 laws_FnGenus.B12 = true := by kernel_rfl
set_option maxHeartbeats 8000000 in
set_option maxRecDepth 100000 in
theorem laws_FnGenus.calls (k : Nat) (A0 : Option Addr) (c0 : Nat) (l0 : List Int) (A1 : Option Addr) (c1 : Nat) (l1 : List Int) (r : Bool) (w : World) (hr0 : Kd.C (Kd.int .u8) w A0 l0.length l0) (hc0 : l0.length ≤ c0) (hr1 : Kd.C (Kd.int .u8) w A1 l1.length l1) (hc1 : l1.length ≤ c1) (hr_ : Aside0 (r = true)) (h : laws_FnGenus.f k l0 l1 = some r) :
 Calls Try.prog 6 #[.slice A0 l0.length c0, .slice A1 l1.length c1] w fun e w' => e = .returned (.bool r) ∧ Below w.heap.size w w' := by
 have hu25 := Try.underlying25
 have HR0 := Aside0.mk hr0
 have HC0 := Aside0.mk hc0
 clear hr0 hc0
 have HR1 := Aside0.mk hr1
 have HC1 := Aside0.mk hc1
 clear hr1 hc1
 have HB := Aside0.mk (Below.refl w.heap.size w)
 have H : (if (l0.length : Int) > 1048576 then (laws_FnGenus.j0 k l0 l1 true) else (laws_FnGenus.j0 k l0 l1 (decide ((l1.length : Int) > 1048576)))) = some r := h
 clear h
 have HC3 := Aside0.mk H
 clear H
 go_enter Try.func6, Try.ntmps6
 go_upto_region 1 with (fail)
 go_cut [23] (fun v23 wc => ∃ (kq : Nat) (x23_2 : Bool), v23 = .bool x23_2 ∧ Aside0 (laws_FnGenus.j0 kq l0 l1 x23_2 = some r) ∧ Aside0 (kq ≤ k) ∧ Aside0 (Below w.heap.size w wc))
 case first =>
  have H := HC3.out
  clear HC3
  by_cases c4 : (l0.length : Int) > 1048576
  ·rw [if_pos c4] at H
   have c4b0 : decide (1048576 < (l0.length : Int)) = true := decide_eq_true c4
   have c4b1 : decide (1048576 < l0.length) = true := decide_eq_true (by omega)
   clear c4
   (first | rw [c4b0] | (simp only [i64_w, i32_w]; rw [c4b0]) | skip)
   have H' := Aside0.mk H
   clear H
   go_wp2
   go_meet
   case rel => exact ⟨_, (true), eS, H', ⟨by first | omega | exact Nat.le_refl _⟩, ⟨bP HB⟩⟩
  ·rw [if_neg c4] at H
   have c4b0 : decide (1048576 < (l0.length : Int)) = false := decide_eq_false c4
   have c4b1 : decide (1048576 < l0.length) = false := decide_eq_false (by omega)
   clear c4
   (first | rw [c4b0] | (simp only [i64_w, i32_w]; rw [c4b0]) | skip)
   have H' := Aside0.mk H
   clear H
   go_wp2
   go_meet
   case rel => exact ⟨_, (decide ((l1.length : Int) > 1048576)), eS, H', ⟨by first | omega | exact Nat.le_refl _⟩, ⟨bP HB⟩⟩
 case rest =>
  clear HC3
  try clear c1
  try clear p2
  try clear c4
  try clear c4b0
  try clear c4b1
  obtain ⟨kq, x23_2, rfl, HA, HJ2, HB⟩ := hcut
  cases kq with
  | zero => exact absurd HA.out (by simp [laws_FnGenus.j0])
  | succ kj2 =>
   have H := HA.out
   clear HA
   simp only [laws_FnGenus.j0] at H
   by_cases c5 : x23_2 = true
   ·subst c5
    have H1 : (some true) = some r := by rw [if_pos rfl] at H; exact H
    clear H
    have H := H1
    clear H1
    obtain rfl := Option.some.inj H
    go_wp2
    go_ret
    exact ⟨eR, bP HB⟩
   ·replace c5 := Bool.eq_false_iff.mpr c5
    subst c5
    have H1 : ((spec_DrawMapGenus.f kj2 l0).bind fun bt672 => ((impl_MapGenus.f kj2 bt672.1 bt672.2).bind fun t679 => ((spec_MapGenus.f kj2 bt672.1 bt672.2).bind fun t680 => (if t679 = t680 then (laws_FnGenus.j1 kj2 l1 t679 t680 (decide (t679 < 0)) bt672.1 bt672.2) else (laws_FnGenus.j1 kj2 l1 t679 t680 true bt672.1 bt672.2))))) = some r := by rw [if_neg (show ¬ (false = true) by decide)] at H; exact H
    clear H
    have H := H1
    clear H1
    replace H := Option.bind_eq_some_iff.mp H
    obtain ⟨⟨t672, t675⟩, A60, H⟩ := H
    replace H : ((impl_MapGenus.f kj2 t672 t675).bind fun t679 => ((spec_MapGenus.f kj2 t672 t675).bind fun t680 => (if t679 = t680 then (laws_FnGenus.j1 kj2 l1 t679 t680 (decide (t679 < 0)) t672 t675) else (laws_FnGenus.j1 kj2 l1 t679 t680 true t672 t675)))) = some r := H
    have A6 := Aside0.mk A60
    clear A60
    replace H := Option.bind_eq_some_iff.mp H
    obtain ⟨t679, A70, H⟩ := H
    replace H : ((spec_MapGenus.f kj2 t672 t675).bind fun t680 => (if t679 = t680 then (laws_FnGenus.j1 kj2 l1 t679 t680 (decide (t679 < 0)) t672 t675) else (laws_FnGenus.j1 kj2 l1 t679 t680 true t672 t675))) = some r := H
    have A7 := Aside0.mk A70
    clear A70
    replace H := Option.bind_eq_some_iff.mp H
    obtain ⟨t680, A80, H⟩ := H
    replace H : (if t679 = t680 then (laws_FnGenus.j1 kj2 l1 t679 t680 (decide (t679 < 0)) t672 t675) else (laws_FnGenus.j1 kj2 l1 t679 t680 true t672 t675)) = some r := H
    have A8 := Aside0.mk A80
    clear A80
    have HC9 := Aside0.mk H
    clear H
    go_upto_region 6 with (first | ((with_reducible refine gate_callee (f := 25) rfl ?_); refine gL (some 25) Try.func25 #[.slice A0 l0.length c0] ?_; (with_reducible refine (spec_DrawMapGenus.calls kj2 _ _ l0 t672 t675 _ ?side1 ?side2 A6.out).mono ?_); (case side1 => exact cB HR0 HB); (case side2 => exact HC0.out); rintro e w10 ⟨v673, v676, rfl, ho0, ho1, hb⟩; refine ⟨_, rfl, ?_⟩; have HO674 := Aside0.mk (Kd.Q_lower ho0 (below_size (bP HB))); have HO677 := rL ho1 HB; replace HB := bS HB hb; (try clear hb); (try clear hb2); (try clear hk); (try clear hi); (try clear ho0); (try clear ho1)) | ((with_reducible refine gate_dst (N := 5) rfl ?_); (try (refine gate_guard (by rfl) ?_; dsimp only)); refine bE 5 #[.slice none 0 0, .slice none 0 0] 25 ?_; intro gb678 hg w11 hbox hb; replace HO674 := Aside0.mk (Kd.Q_below (by (with_reducible repeat (first | apply Kd.Q_alloc | apply Kd.Q_drewN | apply Kd.Q_drew)); exact HO674.out) hb); replace HO677 := rB HO677 hb; have BK678 := Aside0.mk (hbox); have GW678 := gS HB hg; have GE678 := gS HB hg; replace HB := bS HB hb; clear hb hbox hg; obtain ⟨Ao12, co12, eo12, _⟩ := Kd.Q_slice HO674.out; subst eo12; have hcz13_0 := zc0 BK678; have hcz13_1 := zc1 BK678; have hfz13_0 := blk_frozen BK678.out 0; have hfz13_1 := blk_frozen BK678.out 1; obtain ⟨Ao14, co14, eo14⟩ := Kd.R_slice HO677.out; subst eo14) | ((with_reducible refine gate_callee (f := 26) rfl ?_); refine gL (some 27) Try.func26 #[.agg #[.slice Ao12 t672.length co12, .slice Ao14 t675.length co14]] ?_; (with_reducible refine (impl_MapGenus.calls kj2 _ _ t672 _ _ t675 t679 _ ?side1 ?side2 ?side3 ?side4 A7.out).mono ?_); (case side1 => refine (Kd.Q_reads' (e := 3) (base := w.heap.size) (ok := fun k_ => oN k_ Ao14 t675 co14) (n := t672.length) (c := co12) ?_).2.2; exact (by (with_reducible repeat (first | apply Kd.Q_alloc | apply Kd.Q_drewN | apply Kd.Q_drew)); exact (Kd.Q_mono (Kd.Q_far (p := ⟨gb678, 1, none⟩) (Kd.Q_far (p := ⟨gb678, 0, none⟩) (Kd.Q_types HO674.out BK678.out (by decide)) (fun _ hk => hk.2) (.slice Ao12 t672.length co12)) (fun _ hk => hk.2) (.slice Ao14 t675.length co14)) (fun _ h_ => h_.1)))); (case side2 => exact (Kd.Q_reads' HO674.out).2.1); (case side3 => refine (Kd.R_reads' (e := 3) (base := w.heap.size) (ok := fun k_ => oN k_ Ao12 t672 co12) (n := t675.length) (c := co14) ?_).2.2; exact (rT (Kd.R_mono (Kd.R_far (p := ⟨gb678, 1, none⟩) (Kd.R_far (p := ⟨gb678, 0, none⟩) (Kd.R_types HO677.out BK678.out (by decide)) (fun _ hk => hk.2) (.slice Ao12 t672.length co12)) (fun _ hk => hk.2) (.slice Ao14 t675.length co14)) (fun _ h_ => h_.1)))); (case side4 => exact (Kd.R_reads' HO677.out).2.1); rintro e w15 ⟨rfl, hb⟩; refine ⟨_, rfl, ?_⟩; replace HO674 := Aside0.mk (Kd.Q_below (by (with_reducible repeat (first | apply Kd.Q_alloc | apply Kd.Q_drewN | apply Kd.Q_drew)); exact (Kd.Q_mono (Kd.Q_far (p := ⟨gb678, 1, none⟩) (Kd.Q_far (p := ⟨gb678, 0, none⟩) (Kd.Q_types HO674.out BK678.out (by decide)) (fun _ hk => hk.2) (.slice Ao12 t672.length co12)) (fun _ hk => hk.2) (.slice Ao14 t675.length co14)) (fun _ h_ => h_.1))) hb); replace HO677 := Aside0.mk (Kd.R_below (rT (Kd.R_mono (Kd.R_far (p := ⟨gb678, 1, none⟩) (Kd.R_far (p := ⟨gb678, 0, none⟩) (Kd.R_types HO677.out BK678.out (by decide)) (fun _ hk => hk.2) (.slice Ao12 t672.length co12)) (fun _ hk => hk.2) (.slice Ao14 t675.length co14)) (fun _ h_ => h_.1))) hb); replace BK678 := Aside0.mk (blk_below (g := gb678) (o := .cells #[.slice Ao12 t672.length co12, .slice Ao14 t675.length co14] 25 (0, 0)) (by (with_reducible repeat (first | refine blk_drewN ?_ _ | refine blk_drew ?_ | refine blk_alloc ?_ _)); refine blk_put (cs := #[.slice Ao12 t672.length co12, .slice none 0 0]) ?_ 1 _ rfl; (with_reducible repeat (first | refine blk_drewN ?_ _ | refine blk_drew ?_ | refine blk_alloc ?_ _)); refine blk_put (cs := #[.slice none 0 0, .slice none 0 0]) ?_ 0 _ rfl; (with_reducible repeat (first | refine blk_drewN ?_ _ | refine blk_drew ?_ | refine blk_alloc ?_ _)); exact BK678.out) hb); replace HB := bS HB hb; (try clear hb); (try clear hb2); (try clear hk); (try clear hi); have hcz16_0 := zc0 BK678; have hcz16_1 := zc1 BK678; have hfz16_0 := blk_frozen BK678.out 0; have hfz16_1 := blk_frozen BK678.out 1) | ((with_reducible refine gate_callee (f := 27) rfl ?_); refine gL (some 29) Try.func27 #[.agg #[.slice Ao12 t672.length co12, .slice Ao14 t675.length co14]] ?_; (with_reducible refine (spec_MapGenus.calls kj2 _ _ t672 _ _ t675 t680 _ ?side1 ?side2 ?side3 ?side4 A8.out).mono ?_); (case side1 => exact cP (Kd.Q_reads' HO674.out).2.2); (case side2 => exact (Kd.Q_reads' HO674.out).2.1); (case side3 => exact cP (Kd.R_reads' HO677.out).2.2); (case side4 => exact (Kd.R_reads' HO677.out).2.1); rintro e w17 ⟨rfl, hb⟩; refine ⟨_, rfl, ?_⟩; replace HO674 := Aside0.mk (Kd.Q_below (by (with_reducible repeat (first | apply Kd.Q_alloc | apply Kd.Q_drewN | apply Kd.Q_drew)); exact HO674.out) hb); replace HO677 := rB HO677 hb; replace BK678 := kB BK678 hb; replace HB := bS HB hb; (try clear hb); (try clear hb2); (try clear hk); (try clear hi)))
    (try simp only [Act.put, List.setIfInBounds_toArray, List.set_cons_zero, List.set_cons_succ])
    go_cut [36] (fun v36 wc => ∃ (kq : Nat) (x36_8 : Bool), v36 = .bool x36_8 ∧ Aside0 (laws_FnGenus.j1 kq l1 t679 t680 x36_8 t672 t675 = some r) ∧ Aside0 (kq ≤ kj2) ∧ Aside0 (Kd.Q (Kd.int .i64) 3 wc w.heap.size (fun k_ => oN k_ Ao14 t675 co14) (.slice Ao12 t672.length co12) t672) ∧ Aside0 (Kd.R (Kd.int .i64) 3 wc w.heap.size (fun k_ => oN k_ Ao12 t672 co12) (.slice Ao14 t675.length co14) t675) ∧ Aside0 (wc.heap[gb678]? = some (.cells #[(.slice Ao12 t672.length co12), (.slice Ao14 t675.length co14)] 25 (0, 0))) ∧ Aside0 (Below w.heap.size w wc))
    case first =>
     have H := HC9.out
     clear HC9
     by_cases c18 : t679 = t680
     ·rw [if_pos c18] at H
      have c18b0 : (t679 == t680) = true := beq_iff_eq.mpr c18
      have c18b1 : (t679 != t680) = false := bne_eq_false_iff_eq.mpr c18
      clear c18
      (first | rw [c18b0] | (simp only [i64_w, i32_w]; rw [c18b0]) | skip)
      have H' := Aside0.mk H
      clear H
      go_wp2
      go_meet
      case rel => exact ⟨_, (decide (t679 < 0)), eS, H', ⟨by have := HJ2.out; first | omega | exact Nat.le_refl _⟩, ⟨by (with_reducible repeat (first | apply Kd.Q_alloc | apply Kd.Q_drewN | apply Kd.Q_drew)); exact HO674.out⟩, ⟨rP HO677⟩, ⟨kP BK678⟩, ⟨bP HB⟩⟩
     ·rw [if_neg c18] at H
      have c18b0 : (t679 == t680) = false := beq_eq_false_iff_ne.mpr c18
      have c18b1 : (t679 != t680) = true := bne_iff_ne.mpr c18
      (first | rw [c18b0] | (simp only [i64_w, i32_w]; rw [c18b0]) | skip)
      have H' := Aside0.mk H
      clear H
      go_wp2
      go_meet
      case rel => exact ⟨_, (true), eS, H', ⟨by have := HJ2.out; first | omega | exact Nat.le_refl _⟩, ⟨by (with_reducible repeat (first | apply Kd.Q_alloc | apply Kd.Q_drewN | apply Kd.Q_drew)); exact HO674.out⟩, ⟨rP HO677⟩, ⟨kP BK678⟩, ⟨bP HB⟩⟩
    case rest =>
     clear HC9
     try clear c1
     try clear c2
     try clear p2
     try clear c4
     try clear c4b0
     try clear c4b1
     try clear c5
     try clear c6
     try clear c18
     try clear c18b0
     try clear c18b1
     try clear hcz13_0
     try clear hcz13_1
     try clear hcz16_0
     try clear hcz16_1
     try clear hfz13_0
     try clear hfz13_1
     try clear hfz16_0
     try clear hfz16_1
     try clear p2
     obtain ⟨kq, x36_8, rfl, HA, HJ8, HO_679000, HO_679001, BK678, HB⟩ := hcut
     cases kq with
     | zero => exact absurd HA.out (by simp [laws_FnGenus.j1])
     | succ kj8 =>
      have H := HA.out
      clear HA
      simp only [laws_FnGenus.j1] at H
      by_cases c19 : x36_8 = true
      ·subst c19
       have H1 : (some (t679 == t680)) = some r := by rw [if_pos rfl] at H; exact H
       clear H
       have H := H1
       clear H1
       obtain rfl := Option.some.inj H
       go_wp2
       go_ret
       exact ⟨eR, bP HB⟩
      ·replace c19 := Bool.eq_false_iff.mpr c19
       subst c19
       have H1 : ((impl_MapCounts.f kj8 t672 t675).bind fun bt681 => ((impl_MapDual.f kj8 t672 t675).bind fun bt685 => ((impl_MapMirror.f kj8 t672 t675).bind fun bt693 => (if (t672.length : Int) = 0 then (none) else ((impl_MapForm.f kj8 t672 t675 ((l1.length : Int) % (t672.length : Int))).bind fun bt701 => (if bt681.2 = true then (if bt685.2.2 = true then (if bt693.2.2 = true then (if bt701.2.2 = true then (if 0 < (bt681.1.length : Int) then (if 1 < (bt681.1.length : Int) then (if 2 < (bt681.1.length : Int) then (if (wrap64 ((wrap64 ((rd bt681.1 0) - (rd bt681.1 1))) + (rd bt681.1 2))) = (wrap64 (2 - (wrap64 (2 * t679)))) then (if t679 ≥ 0 then (if (wrap64 (2 * t679)) ≤ (rd bt681.1 1) then ((impl_MapGenus.f kj8 bt685.1 bt685.2.1).bind fun t713 => (if t713 = t679 then ((impl_MapGenus.f kj8 bt693.1 bt693.2.1).bind fun t714 => (if t714 = t679 then ((impl_MapGenus.f kj8 bt701.1 bt701.2.1).bind fun t715 => (some (t715 == t679))) else (some false))) else (some false))) else (some false)) else (some false)) else (some false)) else (none)) else (none)) else (none)) else (some false)) else (some false)) else (some false)) else (some false))))))) = some r := by rw [if_neg (show ¬ (false = true) by decide)] at H; exact H
       clear H
       have H := H1
       clear H1
       replace H := Option.bind_eq_some_iff.mp H
       obtain ⟨⟨t681, t684⟩, A200, H⟩ := H
       replace H : ((impl_MapDual.f kj8 t672 t675).bind fun bt685 => ((impl_MapMirror.f kj8 t672 t675).bind fun bt693 => (if (t672.length : Int) = 0 then (none) else ((impl_MapForm.f kj8 t672 t675 ((l1.length : Int) % (t672.length : Int))).bind fun bt701 => (if t684 = true then (if bt685.2.2 = true then (if bt693.2.2 = true then (if bt701.2.2 = true then (if 0 < (t681.length : Int) then (if 1 < (t681.length : Int) then (if 2 < (t681.length : Int) then (if (wrap64 ((wrap64 ((rd t681 0) - (rd t681 1))) + (rd t681 2))) = (wrap64 (2 - (wrap64 (2 * t679)))) then (if t679 ≥ 0 then (if (wrap64 (2 * t679)) ≤ (rd t681 1) then ((impl_MapGenus.f kj8 bt685.1 bt685.2.1).bind fun t713 => (if t713 = t679 then ((impl_MapGenus.f kj8 bt693.1 bt693.2.1).bind fun t714 => (if t714 = t679 then ((impl_MapGenus.f kj8 bt701.1 bt701.2.1).bind fun t715 => (some (t715 == t679))) else (some false))) else (some false))) else (some false)) else (some false)) else (some false)) else (none)) else (none)) else (none)) else (some false)) else (some false)) else (some false)) else (some false)))))) = some r := H
       have A20 := Aside0.mk A200
       clear A200
       replace H := Option.bind_eq_some_iff.mp H
       obtain ⟨⟨t685, t688, t691⟩, A210, H⟩ := H
       replace H : ((impl_MapMirror.f kj8 t672 t675).bind fun bt693 => (if (t672.length : Int) = 0 then (none) else ((impl_MapForm.f kj8 t672 t675 ((l1.length : Int) % (t672.length : Int))).bind fun bt701 => (if t684 = true then (if t691 = true then (if bt693.2.2 = true then (if bt701.2.2 = true then (if 0 < (t681.length : Int) then (if 1 < (t681.length : Int) then (if 2 < (t681.length : Int) then (if (wrap64 ((wrap64 ((rd t681 0) - (rd t681 1))) + (rd t681 2))) = (wrap64 (2 - (wrap64 (2 * t679)))) then (if t679 ≥ 0 then (if (wrap64 (2 * t679)) ≤ (rd t681 1) then ((impl_MapGenus.f kj8 t685 t688).bind fun t713 => (if t713 = t679 then ((impl_MapGenus.f kj8 bt693.1 bt693.2.1).bind fun t714 => (if t714 = t679 then ((impl_MapGenus.f kj8 bt701.1 bt701.2.1).bind fun t715 => (some (t715 == t679))) else (some false))) else (some false))) else (some false)) else (some false)) else (some false)) else (none)) else (none)) else (none)) else (some false)) else (some false)) else (some false)) else (some false))))) = some r := H
       have A21 := Aside0.mk A210
       clear A210
       replace H := Option.bind_eq_some_iff.mp H
       obtain ⟨⟨t693, t696, t699⟩, A220, H⟩ := H
       replace H : (if (t672.length : Int) = 0 then (none) else ((impl_MapForm.f kj8 t672 t675 ((l1.length : Int) % (t672.length : Int))).bind fun bt701 => (if t684 = true then (if t691 = true then (if t699 = true then (if bt701.2.2 = true then (if 0 < (t681.length : Int) then (if 1 < (t681.length : Int) then (if 2 < (t681.length : Int) then (if (wrap64 ((wrap64 ((rd t681 0) - (rd t681 1))) + (rd t681 2))) = (wrap64 (2 - (wrap64 (2 * t679)))) then (if t679 ≥ 0 then (if (wrap64 (2 * t679)) ≤ (rd t681 1) then ((impl_MapGenus.f kj8 t685 t688).bind fun t713 => (if t713 = t679 then ((impl_MapGenus.f kj8 t693 t696).bind fun t714 => (if t714 = t679 then ((impl_MapGenus.f kj8 bt701.1 bt701.2.1).bind fun t715 => (some (t715 == t679))) else (some false))) else (some false))) else (some false)) else (some false)) else (some false)) else (none)) else (none)) else (none)) else (some false)) else (some false)) else (some false)) else (some false)))) = some r := H
       have A22 := Aside0.mk A220
       clear A220
       by_cases c23 : (t672.length : Int) = 0
       ·rw [if_pos c23] at H
        exact absurd H (by simp)
       ·rw [if_neg c23] at H
        have c23b0 : ((t672.length : Int) == 0) = false := beq_eq_false_iff_ne.mpr c23
        have c23b1 : ((t672.length : Int) != 0) = true := bne_iff_ne.mpr c23
        have c23b2 : ¬ (t672 = []) := fun h_ => c23 (by rw [h_]; rfl)
        replace H := Option.bind_eq_some_iff.mp H
        obtain ⟨⟨t701, t704, t707⟩, A240, H⟩ := H
        replace H : (if t684 = true then (if t691 = true then (if t699 = true then (if t707 = true then (if 0 < (t681.length : Int) then (if 1 < (t681.length : Int) then (if 2 < (t681.length : Int) then (if (wrap64 ((wrap64 ((rd t681 0) - (rd t681 1))) + (rd t681 2))) = (wrap64 (2 - (wrap64 (2 * t679)))) then (if t679 ≥ 0 then (if (wrap64 (2 * t679)) ≤ (rd t681 1) then ((impl_MapGenus.f kj8 t685 t688).bind fun t713 => (if t713 = t679 then ((impl_MapGenus.f kj8 t693 t696).bind fun t714 => (if t714 = t679 then ((impl_MapGenus.f kj8 t701 t704).bind fun t715 => (some (t715 == t679))) else (some false))) else (some false))) else (some false)) else (some false)) else (some false)) else (none)) else (none)) else (none)) else (some false)) else (some false)) else (some false)) else (some false)) = some r := H
        have A24 := Aside0.mk A240
        clear A240
        by_cases c25 : t684 = true
        ·subst c25
         have H1 : (if t691 = true then (if t699 = true then (if t707 = true then (if 0 < (t681.length : Int) then (if 1 < (t681.length : Int) then (if 2 < (t681.length : Int) then (if (wrap64 ((wrap64 ((rd t681 0) - (rd t681 1))) + (rd t681 2))) = (wrap64 (2 - (wrap64 (2 * t679)))) then (if t679 ≥ 0 then (if (wrap64 (2 * t679)) ≤ (rd t681 1) then ((impl_MapGenus.f kj8 t685 t688).bind fun t713 => (if t713 = t679 then ((impl_MapGenus.f kj8 t693 t696).bind fun t714 => (if t714 = t679 then ((impl_MapGenus.f kj8 t701 t704).bind fun t715 => (some (t715 == t679))) else (some false))) else (some false))) else (some false)) else (some false)) else (some false)) else (none)) else (none)) else (none)) else (some false)) else (some false)) else (some false)) = some r := by rw [if_pos rfl] at H; exact H
         clear H
         have H := H1
         clear H1
         by_cases c26 : t691 = true
         ·subst c26
          have H1 : (if t699 = true then (if t707 = true then (if 0 < (t681.length : Int) then (if 1 < (t681.length : Int) then (if 2 < (t681.length : Int) then (if (wrap64 ((wrap64 ((rd t681 0) - (rd t681 1))) + (rd t681 2))) = (wrap64 (2 - (wrap64 (2 * t679)))) then (if t679 ≥ 0 then (if (wrap64 (2 * t679)) ≤ (rd t681 1) then ((impl_MapGenus.f kj8 t685 t688).bind fun t713 => (if t713 = t679 then ((impl_MapGenus.f kj8 t693 t696).bind fun t714 => (if t714 = t679 then ((impl_MapGenus.f kj8 t701 t704).bind fun t715 => (some (t715 == t679))) else (some false))) else (some false))) else (some false)) else (some false)) else (some false)) else (none)) else (none)) else (none)) else (some false)) else (some false)) = some r := by rw [if_pos rfl] at H; exact H
          clear H
          have H := H1
          clear H1
          by_cases c27 : t699 = true
          ·subst c27
           have H1 : (if t707 = true then (if 0 < (t681.length : Int) then (if 1 < (t681.length : Int) then (if 2 < (t681.length : Int) then (if (wrap64 ((wrap64 ((rd t681 0) - (rd t681 1))) + (rd t681 2))) = (wrap64 (2 - (wrap64 (2 * t679)))) then (if t679 ≥ 0 then (if (wrap64 (2 * t679)) ≤ (rd t681 1) then ((impl_MapGenus.f kj8 t685 t688).bind fun t713 => (if t713 = t679 then ((impl_MapGenus.f kj8 t693 t696).bind fun t714 => (if t714 = t679 then ((impl_MapGenus.f kj8 t701 t704).bind fun t715 => (some (t715 == t679))) else (some false))) else (some false))) else (some false)) else (some false)) else (some false)) else (none)) else (none)) else (none)) else (some false)) = some r := by rw [if_pos rfl] at H; exact H
           clear H
           have H := H1
           clear H1
           by_cases c28 : t707 = true
           ·subst c28
            have H1 : (if 0 < (t681.length : Int) then (if 1 < (t681.length : Int) then (if 2 < (t681.length : Int) then (if (wrap64 ((wrap64 ((rd t681 0) - (rd t681 1))) + (rd t681 2))) = (wrap64 (2 - (wrap64 (2 * t679)))) then (if t679 ≥ 0 then (if (wrap64 (2 * t679)) ≤ (rd t681 1) then ((impl_MapGenus.f kj8 t685 t688).bind fun t713 => (if t713 = t679 then ((impl_MapGenus.f kj8 t693 t696).bind fun t714 => (if t714 = t679 then ((impl_MapGenus.f kj8 t701 t704).bind fun t715 => (some (t715 == t679))) else (some false))) else (some false))) else (some false)) else (some false)) else (some false)) else (none)) else (none)) else (none)) = some r := by rw [if_pos rfl] at H; exact H
            clear H
            have H := H1
            clear H1
            by_cases c29 : 0 < (t681.length : Int)
            ·rw [if_pos c29] at H
             have c29b0 : decide (0 < (t681.length : Int)) = true := decide_eq_true c29
             have c29b1 : decide (0 < t681.length) = true := decide_eq_true (by omega)
             clear c29
             by_cases c30 : 1 < (t681.length : Int)
             ·rw [if_pos c30] at H
              have c30b0 : decide (1 < (t681.length : Int)) = true := decide_eq_true c30
              have c30b1 : decide (1 < t681.length) = true := decide_eq_true (by omega)
              clear c30
              by_cases c31 : 2 < (t681.length : Int)
              ·rw [if_pos c31] at H
               have c31b0 : decide (2 < (t681.length : Int)) = true := decide_eq_true c31
               have c31b1 : decide (2 < t681.length) = true := decide_eq_true (by omega)
               clear c31
               by_cases c32 : (wrap64 ((wrap64 ((rd t681 0) - (rd t681 1))) + (rd t681 2))) = (wrap64 (2 - (wrap64 (2 * t679))))
               ·rw [if_pos c32] at H
                have c32b0 : ((wrap64 ((wrap64 ((rd t681 0) - (rd t681 1))) + (rd t681 2))) == (wrap64 (2 - (wrap64 (2 * t679))))) = true := beq_iff_eq.mpr c32
                have c32b1 : ((wrap64 ((wrap64 ((rd t681 0) - (rd t681 1))) + (rd t681 2))) != (wrap64 (2 - (wrap64 (2 * t679))))) = false := bne_eq_false_iff_eq.mpr c32
                clear c32
                by_cases c33 : t679 ≥ 0
                ·rw [if_pos c33] at H
                 have c33b0 : decide (0 ≤ t679) = true := decide_eq_true c33
                 clear c33
                 by_cases c34 : (wrap64 (2 * t679)) ≤ (rd t681 1)
                 ·rw [if_pos c34] at H
                  have c34b0 : decide ((wrap64 (2 * t679)) ≤ (rd t681 1)) = true := decide_eq_true c34
                  clear c34
                  replace H := Option.bind_eq_some_iff.mp H
                  obtain ⟨t713, A350, H⟩ := H
                  replace H : (if t713 = t679 then ((impl_MapGenus.f kj8 t693 t696).bind fun t714 => (if t714 = t679 then ((impl_MapGenus.f kj8 t701 t704).bind fun t715 => (some (t715 == t679))) else (some false))) else (some false)) = some r := H
                  have A35 := Aside0.mk A350
                  clear A350
                  by_cases c36 : t713 = t679
                  ·rw [if_pos c36] at H
                   have c36b0 : (t713 == t679) = true := beq_iff_eq.mpr c36
                   have c36b1 : (t713 != t679) = false := bne_eq_false_iff_eq.mpr c36
                   clear c36
                   replace H := Option.bind_eq_some_iff.mp H
                   obtain ⟨t714, A370, H⟩ := H
                   replace H : (if t714 = t679 then ((impl_MapGenus.f kj8 t701 t704).bind fun t715 => (some (t715 == t679))) else (some false)) = some r := H
                   have A37 := Aside0.mk A370
                   clear A370
                   by_cases c38 : t714 = t679
                   ·rw [if_pos c38] at H
                    have c38b0 : (t714 == t679) = true := beq_iff_eq.mpr c38
                    have c38b1 : (t714 != t679) = false := bne_eq_false_iff_eq.mpr c38
                    clear c38
                    replace H := Option.bind_eq_some_iff.mp H
                    obtain ⟨t715, A390, H⟩ := H
                    replace H : (some (t715 == t679)) = some r := H
                    have A39 := Aside0.mk A390
                    clear A390
                    obtain rfl := Option.some.inj H
                    have hcz40_0 := zc0 BK678
                    have hcz40_1 := zc1 BK678
                    have hfz40_0 := blk_frozen BK678.out 0
                    have hfz40_1 := blk_frozen BK678.out 1
                    try go_wp2_with (first | ((with_reducible refine gate_callee (f := 13) rfl ?_); refine gL (some 42) Try.func13 #[.agg #[.slice Ao12 t672.length co12, .slice Ao14 t675.length co14]] ?_; (with_reducible refine (impl_MapCounts.calls kj8 _ _ t672 _ _ t675 t681 true _ ?side1 ?side2 ?side3 ?side4 A20.out).mono ?_); (case side1 => exact cP (Kd.Q_reads' HO_679000.out).2.2); (case side2 => exact (Kd.Q_reads' HO_679000.out).2.1); (case side3 => exact cP (Kd.R_reads' HO_679001.out).2.2); (case side4 => exact (Kd.R_reads' HO_679001.out).2.1); rintro e w41 ⟨v682, rfl, ho0, hb⟩; refine ⟨_, rfl, ?_⟩; have HO683 := Aside0.mk (Kd.R_lower (Kd.R_new' (Kd.R_new' ho0 (Kd.Q_lt (by (with_reducible repeat (first | apply Kd.Q_alloc | apply Kd.Q_drewN | apply Kd.Q_drew)); exact HO_679000.out))) (Kd.R_lt (rP HO_679001))) (below_size (bP HB))); replace HO_679000 := Aside0.mk (Kd.Q_elder' (by (with_reducible repeat (first | apply Kd.Q_alloc | apply Kd.Q_drewN | apply Kd.Q_drew)); exact HO_679000.out) (Kd.R_base ho0) hb); replace HO_679001 := Aside0.mk (Kd.R_elder' (rP HO_679001) (Kd.R_base ho0) hb); replace BK678 := kB BK678 hb; replace HB := bS HB hb; (try clear hb); (try clear hb2); (try clear hk); (try clear hi); (try clear ho0); have hcz42_0 := zc0 BK678; have hcz42_1 := zc1 BK678; have hfz42_0 := blk_frozen BK678.out 0; have hfz42_1 := blk_frozen BK678.out 1) | ((with_reducible refine gate_callee (f := 20) rfl ?_); refine gL (some 47) Try.func20 #[.agg #[.slice Ao12 t672.length co12, .slice Ao14 t675.length co14]] ?_; (with_reducible refine (impl_MapDual.calls kj8 _ _ t672 _ _ t675 t685 t688 true _ ?side1 ?side2 ?side3 ?side4 A21.out).mono ?_); (case side1 => exact cP (Kd.Q_reads' HO_679000.out).2.2); (case side2 => exact (Kd.Q_reads' HO_679000.out).2.1); (case side3 => exact cP (Kd.R_reads' HO_679001.out).2.2); (case side4 => exact (Kd.R_reads' HO_679001.out).2.1); rintro e w43 ⟨v686, v689, rfl, ho0, ho1, hb⟩; refine ⟨_, rfl, ?_⟩; have HO687 := Aside0.mk (Kd.R_lower (Kd.R_new' (Kd.R_new' (Kd.R_new' ho0 (Kd.Q_lt (by (with_reducible repeat (first | apply Kd.Q_alloc | apply Kd.Q_drewN | apply Kd.Q_drew)); exact HO_679000.out))) (Kd.R_lt (rP HO_679001))) (Kd.R_lt (rP HO683))) (below_size (bP HB))); have HO690 := Aside0.mk (Kd.R_lower (Kd.R_new' (Kd.R_new' (Kd.R_new' ho1 (Kd.Q_lt (by (with_reducible repeat (first | apply Kd.Q_alloc | apply Kd.Q_drewN | apply Kd.Q_drew)); exact HO_679000.out))) (Kd.R_lt (rP HO_679001))) (Kd.R_lt (rP HO683))) (below_size (bP HB))); replace HO_679000 := Aside0.mk (Kd.Q_mono (Kd.Q_told (Kd.Q_told (Kd.Q_old (by (with_reducible repeat (first | apply Kd.Q_alloc | apply Kd.Q_drewN | apply Kd.Q_drew)); exact HO_679000.out) hb) (Kd.R_base ho0)) (Kd.R_base ho1)) (fun _ h_ => h_.1)); replace HO_679001 := Aside0.mk (Kd.R_mono (Kd.R_told (Kd.R_told (Kd.R_old (rP HO_679001) hb) (Kd.R_base ho0)) (Kd.R_base ho1)) (fun _ h_ => h_.1)); replace HO683 := Aside0.mk (Kd.R_mono (Kd.R_told (Kd.R_told (Kd.R_old (rP HO683) hb) (Kd.R_base ho0)) (Kd.R_base ho1)) (fun _ h_ => h_.1)); replace BK678 := kB BK678 hb; replace HB := bS HB hb; (try clear hb); (try clear hb2); (try clear hk); (try clear hi); (try clear ho0); (try clear ho1)) | ((with_reducible refine gate_dst (N := 10) rfl ?_); (try (refine gate_guard (by rfl) ?_; dsimp only)); refine bE 10 #[.slice none 0 0, .slice none 0 0] 25 ?_; intro gb692 hg w44 hbox hb; replace HO_679000 := Aside0.mk (Kd.Q_below (by (with_reducible repeat (first | apply Kd.Q_alloc | apply Kd.Q_drewN | apply Kd.Q_drew)); exact HO_679000.out) hb); replace HO_679001 := rB HO_679001 hb; replace HO683 := rB HO683 hb; replace HO687 := rB HO687 hb; replace HO690 := rB HO690 hb; have BK692 := Aside0.mk (hbox); have GW692 := gS HB hg; have GE692 := gS HB hg; replace HB := bS HB hb; have NB678_692 := nL BK678 hg; have NB692_678 := nG BK678 hg; replace BK678 := kB BK678 hb; clear hb hbox hg; obtain ⟨Ao45, co45, eo45⟩ := Kd.R_slice HO687.out; subst eo45; have hnb46 := NB692_678.out; have hnc46 := NB678_692.out; have hcz47_0 := zc0 BK692; have hcz47_1 := zc1 BK692; have hfz47_0 := blk_frozen BK692.out 0; have hfz47_1 := blk_frozen BK692.out 1; obtain ⟨Ao48, co48, eo48⟩ := Kd.R_slice HO690.out; subst eo48; have hcz49_0 := zc0 BK678; have hcz49_1 := zc1 BK678; have hfz49_0 := blk_frozen BK678.out 0; have hfz49_1 := blk_frozen BK678.out 1) | ((with_reducible refine gate_callee (f := 28) rfl ?_); refine gL (some 52) Try.func28 #[.agg #[.slice Ao12 t672.length co12, .slice Ao14 t675.length co14]] ?_; (with_reducible refine (impl_MapMirror.calls kj8 _ _ t672 _ _ t675 t693 t696 true _ ?side1 ?side2 ?side3 ?side4 A22.out).mono ?_); (case side1 => refine (Kd.Q_reads' (e := 3) (base := w.heap.size) (ok := fun k_ => (((oN k_ Ao14 t675 co14 ∧ some k_ ≠ (v682 : Value).ownBlock) ∧ oN k_ Ao45 t685 co45) ∧ oN k_ Ao48 t688 co48)) (n := t672.length) (c := co12) ?_).2.2; exact (by (with_reducible repeat (first | apply Kd.Q_alloc | apply Kd.Q_drewN | apply Kd.Q_drew)); exact (Kd.Q_mono (Kd.Q_far (p := ⟨gb692, 1, none⟩) (Kd.Q_far (p := ⟨gb692, 0, none⟩) (Kd.Q_types HO_679000.out BK692.out (by decide)) (fun _ hk => hk.2) (.slice Ao45 t685.length co45)) (fun _ hk => hk.2) (.slice Ao48 t688.length co48)) (fun _ h_ => h_.1)))); (case side2 => exact (Kd.Q_reads' HO_679000.out).2.1); (case side3 => refine (Kd.R_reads' (e := 3) (base := w.heap.size) (ok := fun k_ => (((oN k_ Ao12 t672 co12 ∧ some k_ ≠ (v682 : Value).ownBlock) ∧ oN k_ Ao45 t685 co45) ∧ oN k_ Ao48 t688 co48)) (n := t675.length) (c := co14) ?_).2.2; exact (rT (Kd.R_mono (Kd.R_far (p := ⟨gb692, 1, none⟩) (Kd.R_far (p := ⟨gb692, 0, none⟩) (Kd.R_types HO_679001.out BK692.out (by decide)) (fun _ hk => hk.2) (.slice Ao45 t685.length co45)) (fun _ hk => hk.2) (.slice Ao48 t688.length co48)) (fun _ h_ => h_.1)))); (case side4 => exact (Kd.R_reads' HO_679001.out).2.1); rintro e w50 ⟨v694, v697, rfl, ho0, ho1, hb⟩; refine ⟨_, rfl, ?_⟩; have HO695 := Aside0.mk (Kd.R_lower (Kd.R_new' (Kd.R_new' (Kd.R_new' (Kd.R_new' (Kd.R_new' ho0 (Kd.Q_lt (by (with_reducible repeat (first | apply Kd.Q_alloc | apply Kd.Q_drewN | apply Kd.Q_drew)); exact (Kd.Q_mono (Kd.Q_far (p := ⟨gb692, 1, none⟩) (Kd.Q_far (p := ⟨gb692, 0, none⟩) (Kd.Q_types HO_679000.out BK692.out (by decide)) (fun _ hk => hk.2) (.slice Ao45 t685.length co45)) (fun _ hk => hk.2) (.slice Ao48 t688.length co48)) (fun _ h_ => h_.1))))) (Kd.R_lt (rT (Kd.R_mono (Kd.R_far (p := ⟨gb692, 1, none⟩) (Kd.R_far (p := ⟨gb692, 0, none⟩) (Kd.R_types HO_679001.out BK692.out (by decide)) (fun _ hk => hk.2) (.slice Ao45 t685.length co45)) (fun _ hk => hk.2) (.slice Ao48 t688.length co48)) (fun _ h_ => h_.1))))) (Kd.R_lt (rT (Kd.R_mono (Kd.R_far (p := ⟨gb692, 1, none⟩) (Kd.R_far (p := ⟨gb692, 0, none⟩) (Kd.R_types HO683.out BK692.out (by decide)) (fun _ hk => hk.2) (.slice Ao45 t685.length co45)) (fun _ hk => hk.2) (.slice Ao48 t688.length co48)) (fun _ h_ => h_.1))))) (Kd.R_lt (rT (Kd.R_mono (Kd.R_far (p := ⟨gb692, 1, none⟩) (Kd.R_far (p := ⟨gb692, 0, none⟩) (Kd.R_types HO687.out BK692.out (by decide)) (fun _ hk => hk.2) (.slice Ao45 t685.length co45)) (fun _ hk => hk.2) (.slice Ao48 t688.length co48)) (fun _ h_ => h_.1))))) (Kd.R_lt (rT (Kd.R_mono (Kd.R_far (p := ⟨gb692, 1, none⟩) (Kd.R_far (p := ⟨gb692, 0, none⟩) (Kd.R_types HO690.out BK692.out (by decide)) (fun _ hk => hk.2) (.slice Ao45 t685.length co45)) (fun _ hk => hk.2) (.slice Ao48 t688.length co48)) (fun _ h_ => h_.1))))) (below_size (bP HB))); have HO698 := Aside0.mk (Kd.R_lower (Kd.R_new' (Kd.R_new' (Kd.R_new' (Kd.R_new' (Kd.R_new' ho1 (Kd.Q_lt (by (with_reducible repeat (first | apply Kd.Q_alloc | apply Kd.Q_drewN | apply Kd.Q_drew)); exact (Kd.Q_mono (Kd.Q_far (p := ⟨gb692, 1, none⟩) (Kd.Q_far (p := ⟨gb692, 0, none⟩) (Kd.Q_types HO_679000.out BK692.out (by decide)) (fun _ hk => hk.2) (.slice Ao45 t685.length co45)) (fun _ hk => hk.2) (.slice Ao48 t688.length co48)) (fun _ h_ => h_.1))))) (Kd.R_lt (rT (Kd.R_mono (Kd.R_far (p := ⟨gb692, 1, none⟩) (Kd.R_far (p := ⟨gb692, 0, none⟩) (Kd.R_types HO_679001.out BK692.out (by decide)) (fun _ hk => hk.2) (.slice Ao45 t685.length co45)) (fun _ hk => hk.2) (.slice Ao48 t688.length co48)) (fun _ h_ => h_.1))))) (Kd.R_lt (rT (Kd.R_mono (Kd.R_far (p := ⟨gb692, 1, none⟩) (Kd.R_far (p := ⟨gb692, 0, none⟩) (Kd.R_types HO683.out BK692.out (by decide)) (fun _ hk => hk.2) (.slice Ao45 t685.length co45)) (fun _ hk => hk.2) (.slice Ao48 t688.length co48)) (fun _ h_ => h_.1))))) (Kd.R_lt (rT (Kd.R_mono (Kd.R_far (p := ⟨gb692, 1, none⟩) (Kd.R_far (p := ⟨gb692, 0, none⟩) (Kd.R_types HO687.out BK692.out (by decide)) (fun _ hk => hk.2) (.slice Ao45 t685.length co45)) (fun _ hk => hk.2) (.slice Ao48 t688.length co48)) (fun _ h_ => h_.1))))) (Kd.R_lt (rT (Kd.R_mono (Kd.R_far (p := ⟨gb692, 1, none⟩) (Kd.R_far (p := ⟨gb692, 0, none⟩) (Kd.R_types HO690.out BK692.out (by decide)) (fun _ hk => hk.2) (.slice Ao45 t685.length co45)) (fun _ hk => hk.2) (.slice Ao48 t688.length co48)) (fun _ h_ => h_.1))))) (below_size (bP HB))); replace HO_679000 := Aside0.mk (Kd.Q_mono (Kd.Q_told (Kd.Q_told (Kd.Q_old (by (with_reducible repeat (first | apply Kd.Q_alloc | apply Kd.Q_drewN | apply Kd.Q_drew)); exact (Kd.Q_mono (Kd.Q_far (p := ⟨gb692, 1, none⟩) (Kd.Q_far (p := ⟨gb692, 0, none⟩) (Kd.Q_types HO_679000.out BK692.out (by decide)) (fun _ hk => hk.2) (.slice Ao45 t685.length co45)) (fun _ hk => hk.2) (.slice Ao48 t688.length co48)) (fun _ h_ => h_.1))) hb) (Kd.R_base ho0)) (Kd.R_base ho1)) (fun _ h_ => h_.1)); replace HO_679001 := Aside0.mk (Kd.R_mono (Kd.R_told (Kd.R_told (Kd.R_old (rT (Kd.R_mono (Kd.R_far (p := ⟨gb692, 1, none⟩) (Kd.R_far (p := ⟨gb692, 0, none⟩) (Kd.R_types HO_679001.out BK692.out (by decide)) (fun _ hk => hk.2) (.slice Ao45 t685.length co45)) (fun _ hk => hk.2) (.slice Ao48 t688.length co48)) (fun _ h_ => h_.1))) hb) (Kd.R_base ho0)) (Kd.R_base ho1)) (fun _ h_ => h_.1)); replace HO683 := Aside0.mk (Kd.R_mono (Kd.R_told (Kd.R_told (Kd.R_old (rT (Kd.R_mono (Kd.R_far (p := ⟨gb692, 1, none⟩) (Kd.R_far (p := ⟨gb692, 0, none⟩) (Kd.R_types HO683.out BK692.out (by decide)) (fun _ hk => hk.2) (.slice Ao45 t685.length co45)) (fun _ hk => hk.2) (.slice Ao48 t688.length co48)) (fun _ h_ => h_.1))) hb) (Kd.R_base ho0)) (Kd.R_base ho1)) (fun _ h_ => h_.1)); replace HO687 := Aside0.mk (Kd.R_mono (Kd.R_told (Kd.R_told (Kd.R_old (rT (Kd.R_mono (Kd.R_far (p := ⟨gb692, 1, none⟩) (Kd.R_far (p := ⟨gb692, 0, none⟩) (Kd.R_types HO687.out BK692.out (by decide)) (fun _ hk => hk.2) (.slice Ao45 t685.length co45)) (fun _ hk => hk.2) (.slice Ao48 t688.length co48)) (fun _ h_ => h_.1))) hb) (Kd.R_base ho0)) (Kd.R_base ho1)) (fun _ h_ => h_.1)); replace HO690 := Aside0.mk (Kd.R_mono (Kd.R_told (Kd.R_told (Kd.R_old (rT (Kd.R_mono (Kd.R_far (p := ⟨gb692, 1, none⟩) (Kd.R_far (p := ⟨gb692, 0, none⟩) (Kd.R_types HO690.out BK692.out (by decide)) (fun _ hk => hk.2) (.slice Ao45 t685.length co45)) (fun _ hk => hk.2) (.slice Ao48 t688.length co48)) (fun _ h_ => h_.1))) hb) (Kd.R_base ho0)) (Kd.R_base ho1)) (fun _ h_ => h_.1)); replace BK678 := kG BK678 hb; replace BK692 := Aside0.mk (blk_below (g := gb692) (o := .cells #[.slice Ao45 t685.length co45, .slice Ao48 t688.length co48] 25 (0, 0)) (by (with_reducible repeat (first | refine blk_drewN ?_ _ | refine blk_drew ?_ | refine blk_alloc ?_ _)); refine blk_put (cs := #[.slice Ao45 t685.length co45, .slice none 0 0]) ?_ 1 _ rfl; (with_reducible repeat (first | refine blk_drewN ?_ _ | refine blk_drew ?_ | refine blk_alloc ?_ _)); refine blk_put (cs := #[.slice none 0 0, .slice none 0 0]) ?_ 0 _ rfl; (with_reducible repeat (first | refine blk_drewN ?_ _ | refine blk_drew ?_ | refine blk_alloc ?_ _)); exact BK692.out) hb); replace HB := bS HB hb; (try clear hb); (try clear hb2); (try clear hk); (try clear hi); (try clear ho0); (try clear ho1)) | ((with_reducible refine gate_dst (N := 12) rfl ?_); (try (refine gate_guard (by rfl) ?_; dsimp only)); refine bE 12 #[.slice none 0 0, .slice none 0 0] 25 ?_; intro gb700 hg w51 hbox hb; replace HO_679000 := Aside0.mk (Kd.Q_below (by (with_reducible repeat (first | apply Kd.Q_alloc | apply Kd.Q_drewN | apply Kd.Q_drew)); exact HO_679000.out) hb); replace HO_679001 := rB HO_679001 hb; replace HO683 := rB HO683 hb; replace HO687 := rB HO687 hb; replace HO690 := rB HO690 hb; replace HO695 := rB HO695 hb; replace HO698 := rB HO698 hb; have BK700 := Aside0.mk (hbox); have GW700 := gS HB hg; have GE700 := gS HB hg; replace HB := bS HB hb; have NB678_700 := nL BK678 hg; have NB700_678 := nG BK678 hg; replace BK678 := kB BK678 hb; have NB692_700 := nL BK692 hg; have NB700_692 := nG BK692 hg; replace BK692 := kB BK692 hb; clear hb hbox hg; obtain ⟨Ao52, co52, eo52⟩ := Kd.R_slice HO695.out; subst eo52; have hnb53 := NB700_678.out; have hnc53 := NB678_700.out; have hnb54 := NB700_692.out; have hnc54 := NB692_700.out; have hcz55_0 := zc0 BK700; have hcz55_1 := zc1 BK700; have hfz55_0 := blk_frozen BK700.out 0; have hfz55_1 := blk_frozen BK700.out 1; obtain ⟨Ao56, co56, eo56⟩ := Kd.R_slice HO698.out; subst eo56))
                    have n0_ : Aside0 (Kd.Q (Kd.int .i64) 3 ((w51.setCell ⟨gb700, 0, none⟩ (.slice Ao52 t693.length co52)).setCell ⟨gb700, 1, none⟩ (.slice Ao56 t696.length co56)) w.heap.size (fun k_ => oN k_ Ao14 t675 co14 ∧ some k_ ≠ (v682 : Value).ownBlock ∧ oN k_ Ao45 t685 co45 ∧ oN k_ Ao48 t688 co48 ∧ oN k_ Ao52 t693 co52 ∧ oN k_ Ao56 t696 co56) (.slice Ao12 t672.length co12) t672) := ⟨by (with_reducible repeat (first | apply Kd.Q_alloc | apply Kd.Q_drewN | apply Kd.Q_drew)); exact Kd.Q_mono (Kd.Q_far (p := ⟨gb700, 1, none⟩) (Kd.Q_far (p := ⟨gb700, 0, none⟩) (Kd.Q_types HO_679000.out BK700.out (by decide)) (fun _ hk => hk.2) (.slice Ao52 t693.length co52)) (fun _ hk => hk.2) (.slice Ao56 t696.length co56)) (fun _ hk => ⟨hk.1.1.1.1.1.1, ⟨hk.1.1.1.1.1.2, ⟨hk.1.1.1.1.2, ⟨hk.1.1.1.2, ⟨hk.1.1.2, hk.1.2⟩⟩⟩⟩⟩)⟩
                    have n1_ : Aside0 (Kd.R (Kd.int .i64) 3 ((w51.setCell ⟨gb700, 0, none⟩ (.slice Ao52 t693.length co52)).setCell ⟨gb700, 1, none⟩ (.slice Ao56 t696.length co56)) w.heap.size (fun k_ => oN k_ Ao12 t672 co12 ∧ some k_ ≠ (v682 : Value).ownBlock ∧ oN k_ Ao45 t685 co45 ∧ oN k_ Ao48 t688 co48 ∧ oN k_ Ao52 t693 co52 ∧ oN k_ Ao56 t696 co56) (.slice Ao14 t675.length co14) t675) := ⟨by (with_reducible repeat (first | apply Kd.R_alloc | apply Kd.R_drewN | apply Kd.R_drew)); exact Kd.R_mono (Kd.R_far (p := ⟨gb700, 1, none⟩) (Kd.R_far (p := ⟨gb700, 0, none⟩) (Kd.R_types HO_679001.out BK700.out (by decide)) (fun _ hk => hk.2) (.slice Ao52 t693.length co52)) (fun _ hk => hk.2) (.slice Ao56 t696.length co56)) (fun _ hk => ⟨hk.1.1.1.1.1.1, ⟨hk.1.1.1.1.1.2, ⟨hk.1.1.1.1.2, ⟨hk.1.1.1.2, ⟨hk.1.1.2, hk.1.2⟩⟩⟩⟩⟩)⟩
                    have n2_ : Aside0 (Kd.R (Kd.int .i64) 3 ((w51.setCell ⟨gb700, 0, none⟩ (.slice Ao52 t693.length co52)).setCell ⟨gb700, 1, none⟩ (.slice Ao56 t696.length co56)) w.heap.size (fun k_ => oN k_ Ao12 t672 co12 ∧ oN k_ Ao14 t675 co14 ∧ oN k_ Ao45 t685 co45 ∧ oN k_ Ao48 t688 co48 ∧ oN k_ Ao52 t693 co52 ∧ oN k_ Ao56 t696 co56) v682 t681) := ⟨by (with_reducible repeat (first | apply Kd.R_alloc | apply Kd.R_drewN | apply Kd.R_drew)); exact Kd.R_mono (Kd.R_far (p := ⟨gb700, 1, none⟩) (Kd.R_far (p := ⟨gb700, 0, none⟩) (Kd.R_types HO683.out BK700.out (by decide)) (fun _ hk => hk.2) (.slice Ao52 t693.length co52)) (fun _ hk => hk.2) (.slice Ao56 t696.length co56)) (fun _ hk => ⟨hk.1.1.1.1.1.1.2, ⟨hk.1.1.1.1.1.2, ⟨hk.1.1.1.1.2, ⟨hk.1.1.1.2, ⟨hk.1.1.2, hk.1.2⟩⟩⟩⟩⟩)⟩
                    have n3_ : Aside0 (Kd.R (Kd.int .i64) 3 ((w51.setCell ⟨gb700, 0, none⟩ (.slice Ao52 t693.length co52)).setCell ⟨gb700, 1, none⟩ (.slice Ao56 t696.length co56)) w.heap.size (fun k_ => oN k_ Ao12 t672 co12 ∧ oN k_ Ao14 t675 co14 ∧ some k_ ≠ (v682 : Value).ownBlock ∧ oN k_ Ao48 t688 co48 ∧ oN k_ Ao52 t693 co52 ∧ oN k_ Ao56 t696 co56) (.slice Ao45 t685.length co45) t685) := ⟨by (with_reducible repeat (first | apply Kd.R_alloc | apply Kd.R_drewN | apply Kd.R_drew)); exact Kd.R_mono (Kd.R_far (p := ⟨gb700, 1, none⟩) (Kd.R_far (p := ⟨gb700, 0, none⟩) (Kd.R_types HO687.out BK700.out (by decide)) (fun _ hk => hk.2) (.slice Ao52 t693.length co52)) (fun _ hk => hk.2) (.slice Ao56 t696.length co56)) (fun _ hk => ⟨hk.1.1.1.1.1.2, ⟨hk.1.1.1.1.2, ⟨hk.1.1.1.2, ⟨hk.1.1.1.1.1.1, ⟨hk.1.1.2, hk.1.2⟩⟩⟩⟩⟩)⟩
                    have n4_ : Aside0 (Kd.R (Kd.int .i64) 3 ((w51.setCell ⟨gb700, 0, none⟩ (.slice Ao52 t693.length co52)).setCell ⟨gb700, 1, none⟩ (.slice Ao56 t696.length co56)) w.heap.size (fun k_ => oN k_ Ao12 t672 co12 ∧ oN k_ Ao14 t675 co14 ∧ some k_ ≠ (v682 : Value).ownBlock ∧ oN k_ Ao45 t685 co45 ∧ oN k_ Ao52 t693 co52 ∧ oN k_ Ao56 t696 co56) (.slice Ao48 t688.length co48) t688) := ⟨by (with_reducible repeat (first | apply Kd.R_alloc | apply Kd.R_drewN | apply Kd.R_drew)); exact Kd.R_mono (Kd.R_far (p := ⟨gb700, 1, none⟩) (Kd.R_far (p := ⟨gb700, 0, none⟩) (Kd.R_types HO690.out BK700.out (by decide)) (fun _ hk => hk.2) (.slice Ao52 t693.length co52)) (fun _ hk => hk.2) (.slice Ao56 t696.length co56)) (fun _ hk => ⟨hk.1.1.1.1.1.2, ⟨hk.1.1.1.1.2, ⟨hk.1.1.1.2, ⟨hk.1.1.1.1.1.1, ⟨hk.1.1.2, hk.1.2⟩⟩⟩⟩⟩)⟩
                    have n5_ : Aside0 (Kd.R (Kd.int .i64) 3 ((w51.setCell ⟨gb700, 0, none⟩ (.slice Ao52 t693.length co52)).setCell ⟨gb700, 1, none⟩ (.slice Ao56 t696.length co56)) w.heap.size (fun k_ => oN k_ Ao12 t672 co12 ∧ oN k_ Ao14 t675 co14 ∧ some k_ ≠ (v682 : Value).ownBlock ∧ oN k_ Ao45 t685 co45 ∧ oN k_ Ao48 t688 co48 ∧ oN k_ Ao56 t696 co56) (.slice Ao52 t693.length co52) t693) := ⟨by (with_reducible repeat (first | apply Kd.R_alloc | apply Kd.R_drewN | apply Kd.R_drew)); exact Kd.R_mono (Kd.R_far (p := ⟨gb700, 1, none⟩) (Kd.R_far (p := ⟨gb700, 0, none⟩) (Kd.R_types HO695.out BK700.out (by decide)) (fun _ hk => hk.2) (.slice Ao52 t693.length co52)) (fun _ hk => hk.2) (.slice Ao56 t696.length co56)) (fun _ hk => ⟨hk.1.1.1.1.1.2, ⟨hk.1.1.1.1.2, ⟨hk.1.1.1.2, ⟨hk.1.1.2, ⟨hk.1.2, hk.1.1.1.1.1.1⟩⟩⟩⟩⟩)⟩
                    have n6_ : Aside0 (Kd.R (Kd.int .i64) 3 ((w51.setCell ⟨gb700, 0, none⟩ (.slice Ao52 t693.length co52)).setCell ⟨gb700, 1, none⟩ (.slice Ao56 t696.length co56)) w.heap.size (fun k_ => oN k_ Ao12 t672 co12 ∧ oN k_ Ao14 t675 co14 ∧ some k_ ≠ (v682 : Value).ownBlock ∧ oN k_ Ao45 t685 co45 ∧ oN k_ Ao48 t688 co48 ∧ oN k_ Ao52 t693 co52) (.slice Ao56 t696.length co56) t696) := ⟨by (with_reducible repeat (first | apply Kd.R_alloc | apply Kd.R_drewN | apply Kd.R_drew)); exact Kd.R_mono (Kd.R_far (p := ⟨gb700, 1, none⟩) (Kd.R_far (p := ⟨gb700, 0, none⟩) (Kd.R_types HO698.out BK700.out (by decide)) (fun _ hk => hk.2) (.slice Ao52 t693.length co52)) (fun _ hk => hk.2) (.slice Ao56 t696.length co56)) (fun _ hk => ⟨hk.1.1.1.1.1.2, ⟨hk.1.1.1.1.2, ⟨hk.1.1.1.2, ⟨hk.1.1.2, ⟨hk.1.2, hk.1.1.1.1.1.1⟩⟩⟩⟩⟩)⟩
                    have n7_ : Aside0 (((w51.setCell ⟨gb700, 0, none⟩ (.slice Ao52 t693.length co52)).setCell ⟨gb700, 1, none⟩ (.slice Ao56 t696.length co56)).heap[gb678]? = some (.cells #[.slice Ao12 t672.length co12, .slice Ao14 t675.length co14] 25 (0, 0))) := ⟨kF BK678⟩
                    have n8_ : Aside0 (((w51.setCell ⟨gb700, 0, none⟩ (.slice Ao52 t693.length co52)).setCell ⟨gb700, 1, none⟩ (.slice Ao56 t696.length co56)).heap[gb692]? = some (.cells #[.slice Ao45 t685.length co45, .slice Ao48 t688.length co48] 25 (0, 0))) := ⟨kF BK692⟩
                    have n9_ : Aside0 (((w51.setCell ⟨gb700, 0, none⟩ (.slice Ao52 t693.length co52)).setCell ⟨gb700, 1, none⟩ (.slice Ao56 t696.length co56)).heap[gb700]? = some (.cells #[.slice Ao52 t693.length co52, .slice Ao56 t696.length co56] 25 (0, 0))) := ⟨by (with_reducible repeat (first | refine blk_drewN ?_ _ | refine blk_drew ?_ | refine blk_alloc ?_ _)); refine blk_put (cs := #[.slice Ao52 t693.length co52, .slice none 0 0]) ?_ 1 _ rfl; (with_reducible repeat (first | refine blk_drewN ?_ _ | refine blk_drew ?_ | refine blk_alloc ?_ _)); refine blk_put (cs := #[.slice none 0 0, .slice none 0 0]) ?_ 0 _ rfl; (with_reducible repeat (first | refine blk_drewN ?_ _ | refine blk_drew ?_ | refine blk_alloc ?_ _)); exact BK700.out⟩
                    have n10_ : Aside0 (Below w.heap.size w ((w51.setCell ⟨gb700, 0, none⟩ (.slice Ao52 t693.length co52)).setCell ⟨gb700, 1, none⟩ (.slice Ao56 t696.length co56))) := ⟨bP HB⟩
                    (try clear HO_679000)
                    (try clear HO_679001)
                    (try clear HO683)
                    (try clear HO687)
                    (try clear HO690)
                    (try clear HO695)
                    (try clear HO698)
                    (try clear BK678)
                    (try clear BK692)
                    (try clear BK700)
                    (try clear HB)
                    generalize ((w51.setCell ⟨gb700, 0, none⟩ (.slice Ao52 t693.length co52)).setCell ⟨gb700, 1, none⟩ (.slice Ao56 t696.length co56)) = w57 at n0_ n1_ n2_ n3_ n4_ n5_ n6_ n7_ n8_ n9_ n10_ ⊢
                    have HO_679000 := n0_
                    have HO_679001 := n1_
                    have HO683 := n2_
                    have HO687 := n3_
                    have HO690 := n4_
                    have HO695 := n5_
                    have HO698 := n6_
                    have BK678 := n7_
                    have BK692 := n8_
                    have BK700 := n9_
                    have HB := n10_
                    clear n0_ n1_ n2_ n3_ n4_ n5_ n6_ n7_ n8_ n9_ n10_
                    have n0_ := Aside0.mk (Kd.Q_drew HO_679000.out)
                    have n1_ := Aside0.mk (Kd.R_drew HO_679001.out)
                    have n2_ := Aside0.mk (Kd.R_drew HO683.out)
                    have n3_ := Aside0.mk (Kd.R_drew HO687.out)
                    have n4_ := Aside0.mk (Kd.R_drew HO690.out)
                    have n5_ := Aside0.mk (Kd.R_drew HO695.out)
                    have n6_ := Aside0.mk (Kd.R_drew HO698.out)
                    have n7_ := Aside0.mk (blk_drew BK678.out)
                    have n8_ := Aside0.mk (blk_drew BK692.out)
                    have n9_ := Aside0.mk (blk_drew BK700.out)
                    have n10_ := Aside0.mk (below_drew1 HB.out)
                    clear HO_679000
                    clear HO_679001
                    clear HO683
                    clear HO687
                    clear HO690
                    clear HO695
                    clear HO698
                    clear BK678
                    clear BK692
                    clear BK700
                    clear HB
                    have HO_679000 := n0_
                    have HO_679001 := n1_
                    have HO683 := n2_
                    have HO687 := n3_
                    have HO690 := n4_
                    have HO695 := n5_
                    have HO698 := n6_
                    have BK678 := n7_
                    have BK692 := n8_
                    have BK700 := n9_
                    have HB := n10_
                    clear n0_ n1_ n2_ n3_ n4_ n5_ n6_ n7_ n8_ n9_ n10_
                    refine start_ (n := 14) (S := fun w' => w'.cell? ⟨gb678, 0, none⟩ = some (.slice Ao12 t672.length co12) ∧ w'.cell? ⟨gb678, 1, none⟩ = some (.slice Ao14 t675.length co14)) (ds := []) #[false, false, false, false, false, false, false, false, false, false, false, false, false, false] (by kernel_rfl) rfl rfl ⟨(blk_cell BK678.out 0).trans rfl, (blk_cell BK678.out 1).trans rfl⟩ (fun hHeld => ?_); refine with_tabW laws_FnGenus.tab11 laws_FnGenus.bits11 (fun HT_ HW_ => ?_)
                    generalize w57.drew = w58 at HO_679000 HO_679001 HO683 HO687 HO690 HO695 HO698 BK678 BK692 BK700 HB hHeld ⊢
                    refine pure_ (i := 1) (N := some 57) (v := ?_) (a' := ?_) #[false, true, false, false, false, false, false, false, false, false, false, false, false, false] rfl rfl (any_of HT_.out (by kernel_rfl)) (fun _ _ _ h => h) (Or.inl ⟨by rfl, ?_⟩) ?_ ?_
                    rotate_left
                    ·intro w'
                     go_simp
                     with_reducible rfl
                    rotate_left
                    ·simp only [Act.put, List.setIfInBounds_toArray, List.set_cons_zero, List.set_cons_succ, i64_w, i32_w]
                     rfl
                    refine pure_ (i := 2) (N := some 58) (v := ?_) (a' := ?_) #[false, true, true, false, false, false, false, false, false, false, false, false, false, false] rfl rfl (any_of HT_.out (by kernel_rfl)) (fun _ _ _ h => h) (Or.inl ⟨by rfl, ?_⟩) ?_ ?_
                    rotate_left
                    ·intro w'
                     go_simp
                     with_reducible rfl
                    rotate_left
                    ·simp only [Act.put, List.setIfInBounds_toArray, List.set_cons_zero, List.set_cons_succ, i64_w, i32_w]
                     rfl
                    refine pure_ (i := 3) (N := some 59) (v := ?_) (a' := ?_) #[false, true, true, true, false, false, false, false, false, false, false, false, false, false] rfl rfl (any_of HT_.out (by kernel_rfl)) (fun _ _ _ h => h) (Or.inl ⟨by rfl, ?_⟩) ?_ ?_
                    rotate_left
                    ·intro w'
                     go_simp
                     with_reducible rfl
                    rotate_left
                    ·simp only [Act.put, List.setIfInBounds_toArray, List.set_cons_zero, List.set_cons_succ, i64_w, i32_w]
                     rfl
                    refine take_ (i := 0) (N := some 56) (v := ?_) (a' := ?_) #[true, true, true, true, false, false, false, false, false, false, false, false, false, false] rfl rfl (take_ofW HT_.out HW_.out (by kernel_rfl)) (fun _ _ _ h => h) (Or.inl ⟨by rfl, ?_⟩) hHeld ?_ ?_
                    rotate_left
                    ·rintro w' ⟨s0, s1⟩
                     go_simp
                     with_reducible rfl
                    rotate_left
                    ·simp only [Act.put, List.setIfInBounds_toArray, List.set_cons_zero, List.set_cons_succ, i64_w, i32_w]
                     rfl
                    refine take_ (i := 4) (N := some 60) (v := ?_) (a' := ?_) #[true, true, true, true, true, false, false, false, false, false, false, false, false, false] rfl rfl (take_ofW HT_.out HW_.out (by kernel_rfl)) (fun _ _ _ h => h) (Or.inl ⟨by rfl, ?_⟩) hHeld ?_ ?_
                    rotate_left
                    ·rintro w' ⟨s0, s1⟩
                     go_simp
                     with_reducible rfl
                    rotate_left
                    ·simp only [Act.put, List.setIfInBounds_toArray, List.set_cons_zero, List.set_cons_succ, i64_w, i32_w]
                     rfl
                    refine pure_ (i := 5) (N := some 61) (v := ?_) (a' := ?_) #[true, true, true, true, true, true, false, false, false, false, false, false, false, false] rfl rfl (any_of HT_.out (by kernel_rfl)) (fun _ _ _ h => h) (Or.inl ⟨by rfl, ?_⟩) ?_ ?_
                    rotate_left
                    ·intro w'
                     go_simp
                     with_reducible rfl
                    rotate_left
                    ·simp only [Act.put, List.setIfInBounds_toArray, List.set_cons_zero, List.set_cons_succ, i64_w, i32_w]
                     rfl
                    refine pure_ (i := 6) (N := some 62) (v := ?_) (a' := ?_) #[true, true, true, true, true, true, true, false, false, false, false, false, false, false] rfl rfl (any_of HT_.out (by kernel_rfl)) (fun _ _ _ h => h) (Or.inl ⟨by rfl, ?_⟩) ?_ ?_
                    rotate_left
                    ·intro w'
                     go_simp
                     with_reducible rfl
                    rotate_left
                    ·simp only [Act.put, List.setIfInBounds_toArray, List.set_cons_zero, List.set_cons_succ, i64_w, i32_w]
                     rfl
                    refine join_ (σ := Value × Value × Nat) 2 #[true, true, true, true, true, true, true, true, true, true, true, true, false, false] (fun s_ => [(63, .tuple #[.agg #[s_.1, s_.2.1], .bool true]), (14, .pointer (some ⟨s_.2.2, 0, none⟩)), (55, .tuple #[.agg #[s_.1, s_.2.1], .bool true]), (64, .agg #[s_.1, s_.2.1]), (65, .bool true)]) (fun s_ w' => (w'.cell? ⟨gb678, 0, none⟩ = some (.slice Ao12 t672.length co12) ∧ w'.cell? ⟨gb678, 1, none⟩ = some (.slice Ao14 t675.length co14)) ∧ (Kd.R (Kd.int .i64) 3 w' w.heap.size (fun k_ => oN k_ Ao45 t685 co45 ∧ oN k_ Ao48 t688 co48 ∧ oN k_ Ao52 t693 co52 ∧ oN k_ Ao56 t696 co56 ∧ some k_ ≠ (s_.1 : Value).ownBlock ∧ some k_ ≠ (s_.2.1 : Value).ownBlock ∧ oN k_ Ao12 t672 co12 ∧ oN k_ Ao14 t675 co14) v682 t681) ∧ (Kd.R (Kd.int .i64) 3 w' w.heap.size (fun k_ => some k_ ≠ (v682 : Value).ownBlock ∧ oN k_ Ao48 t688 co48 ∧ oN k_ Ao52 t693 co52 ∧ oN k_ Ao56 t696 co56 ∧ some k_ ≠ (s_.1 : Value).ownBlock ∧ some k_ ≠ (s_.2.1 : Value).ownBlock ∧ oN k_ Ao12 t672 co12 ∧ oN k_ Ao14 t675 co14) (.slice Ao45 t685.length co45) t685) ∧ (Kd.R (Kd.int .i64) 3 w' w.heap.size (fun k_ => some k_ ≠ (v682 : Value).ownBlock ∧ oN k_ Ao45 t685 co45 ∧ oN k_ Ao52 t693 co52 ∧ oN k_ Ao56 t696 co56 ∧ some k_ ≠ (s_.1 : Value).ownBlock ∧ some k_ ≠ (s_.2.1 : Value).ownBlock ∧ oN k_ Ao12 t672 co12 ∧ oN k_ Ao14 t675 co14) (.slice Ao48 t688.length co48) t688) ∧ (Kd.R (Kd.int .i64) 3 w' w.heap.size (fun k_ => some k_ ≠ (v682 : Value).ownBlock ∧ oN k_ Ao45 t685 co45 ∧ oN k_ Ao48 t688 co48 ∧ oN k_ Ao56 t696 co56 ∧ some k_ ≠ (s_.1 : Value).ownBlock ∧ some k_ ≠ (s_.2.1 : Value).ownBlock ∧ oN k_ Ao12 t672 co12 ∧ oN k_ Ao14 t675 co14) (.slice Ao52 t693.length co52) t693) ∧ (Kd.R (Kd.int .i64) 3 w' w.heap.size (fun k_ => some k_ ≠ (v682 : Value).ownBlock ∧ oN k_ Ao45 t685 co45 ∧ oN k_ Ao48 t688 co48 ∧ oN k_ Ao52 t693 co52 ∧ some k_ ≠ (s_.1 : Value).ownBlock ∧ some k_ ≠ (s_.2.1 : Value).ownBlock ∧ oN k_ Ao12 t672 co12 ∧ oN k_ Ao14 t675 co14) (.slice Ao56 t696.length co56) t696) ∧ (Kd.R (Kd.int .i64) 3 w' w.heap.size (fun k_ => some k_ ≠ (v682 : Value).ownBlock ∧ oN k_ Ao45 t685 co45 ∧ oN k_ Ao48 t688 co48 ∧ oN k_ Ao52 t693 co52 ∧ oN k_ Ao56 t696 co56 ∧ some k_ ≠ (s_.2.1 : Value).ownBlock ∧ oN k_ Ao12 t672 co12 ∧ oN k_ Ao14 t675 co14) s_.1 t701) ∧ (Kd.R (Kd.int .i64) 3 w' w.heap.size (fun k_ => some k_ ≠ (v682 : Value).ownBlock ∧ oN k_ Ao45 t685 co45 ∧ oN k_ Ao48 t688 co48 ∧ oN k_ Ao52 t693 co52 ∧ oN k_ Ao56 t696 co56 ∧ some k_ ≠ (s_.1 : Value).ownBlock ∧ oN k_ Ao12 t672 co12 ∧ oN k_ Ao14 t675 co14) s_.2.1 t704) ∧ (Kd.Q (Kd.int .i64) 3 w' w.heap.size (fun k_ => some k_ ≠ (v682 : Value).ownBlock ∧ oN k_ Ao45 t685 co45 ∧ oN k_ Ao48 t688 co48 ∧ oN k_ Ao52 t693 co52 ∧ oN k_ Ao56 t696 co56 ∧ some k_ ≠ (s_.1 : Value).ownBlock ∧ some k_ ≠ (s_.2.1 : Value).ownBlock ∧ oN k_ Ao14 t675 co14) (.slice Ao12 t672.length co12) t672) ∧ (Kd.R (Kd.int .i64) 3 w' w.heap.size (fun k_ => some k_ ≠ (v682 : Value).ownBlock ∧ oN k_ Ao45 t685 co45 ∧ oN k_ Ao48 t688 co48 ∧ oN k_ Ao52 t693 co52 ∧ oN k_ Ao56 t696 co56 ∧ some k_ ≠ (s_.1 : Value).ownBlock ∧ some k_ ≠ (s_.2.1 : Value).ownBlock ∧ oN k_ Ao12 t672 co12) (.slice Ao14 t675.length co14) t675) ∧ (w'.heap[gb678]? = some (.cells #[.slice Ao12 t672.length co12, .slice Ao14 t675.length co14] 25 (0, 0))) ∧ (w'.heap[gb692]? = some (.cells #[.slice Ao45 t685.length co45, .slice Ao48 t688.length co48] 25 (0, 0))) ∧ (w'.heap[gb700]? = some (.cells #[.slice Ao52 t693.length co52, .slice Ao56 t696.length co56] 25 (0, 0))) ∧ (w'.heap[s_.2.2]? = some (.cells #[.slice none 0 0, .slice none 0 0] 25 (0, 0))) ∧ (w.heap.size ≤ s_.2.2) ∧ (w.heap.size ≤ s_.2.2) ∧ (gb678 ≠ s_.2.2) ∧ (s_.2.2 ≠ gb678) ∧ (gb692 ≠ s_.2.2) ∧ (s_.2.2 ≠ gb692) ∧ (gb700 ≠ s_.2.2) ∧ (s_.2.2 ≠ gb700) ∧ (Below w.heap.size w w')) ?_ ?_
                    rotate_left
                    ·intro hCont
                     refine two_ (i := 7) (j := 11) (Ni := some 63) (Nj := some 14) #[true, true, true, true, true, true, true, true, false, false, false, false, false, false] #[true, true, true, true, true, true, true, false, false, false, false, true, false, false] rfl rfl rfl rfl (two_of HT_.out (by kernel_rfl)) (by decide) (by decide) (fun K hK => ?_) (fun K hK => ?_)
                     ·skip
                      refine goes_ Try.func29 (by kernel_rfl) rfl #[.agg #[.slice Ao12 t672.length co12, .slice Ao14 t675.length co14], .int .i64 ((l1.length : Int) % (t672.length : Int))] (by rfl) rfl rfl (by (try simp only [List.map_toArray, List.map_cons, List.map_nil]); first | done | rfl | (simp only [List.length_drop, List.length_take]; rfl)) ?_
                      with_reducible refine (impl_MapForm.calls kj8 _ _ t672 _ _ t675 ((l1.length : Int) % (t672.length : Int)) t701 t704 true _ ?side1 ?side2 ?side3 ?side4 A24.out).mono ?_
                      (case side1 => exact cP (Kd.Q_reads' HO_679000.out).2.2)
                      (case side2 => exact (Kd.Q_reads' HO_679000.out).2.1)
                      (case side3 => exact cP (Kd.R_reads' HO_679001.out).2.2)
                      (case side4 => exact (Kd.R_reads' HO_679001.out).2.1)
                      rintro e w59 ⟨v702, v705, rfl, ho0, ho1, hb⟩
                      refine ⟨_, rfl, ?_⟩
                      have n0_ := Aside0.mk (Kd.Q_mono (Kd.Q_told (Kd.Q_told (Kd.Q_old (by (with_reducible repeat (first | apply Kd.Q_alloc | apply Kd.Q_drewN | apply Kd.Q_drew)); exact HO_679000.out) hb) (Kd.R_base ho0)) (Kd.R_base ho1)) (fun _ h_ => h_.1))
                      have n1_ := Aside0.mk (Kd.R_mono (Kd.R_told (Kd.R_told (Kd.R_old (rP HO_679001) hb) (Kd.R_base ho0)) (Kd.R_base ho1)) (fun _ h_ => h_.1))
                      have n2_ := Aside0.mk (Kd.R_mono (Kd.R_told (Kd.R_told (Kd.R_old (rP HO683) hb) (Kd.R_base ho0)) (Kd.R_base ho1)) (fun _ h_ => h_.1))
                      have n3_ := Aside0.mk (Kd.R_mono (Kd.R_told (Kd.R_told (Kd.R_old (rP HO687) hb) (Kd.R_base ho0)) (Kd.R_base ho1)) (fun _ h_ => h_.1))
                      have n4_ := Aside0.mk (Kd.R_mono (Kd.R_told (Kd.R_told (Kd.R_old (rP HO690) hb) (Kd.R_base ho0)) (Kd.R_base ho1)) (fun _ h_ => h_.1))
                      have n5_ := Aside0.mk (Kd.R_mono (Kd.R_told (Kd.R_told (Kd.R_old (rP HO695) hb) (Kd.R_base ho0)) (Kd.R_base ho1)) (fun _ h_ => h_.1))
                      have n6_ := Aside0.mk (Kd.R_mono (Kd.R_told (Kd.R_told (Kd.R_old (rP HO698) hb) (Kd.R_base ho0)) (Kd.R_base ho1)) (fun _ h_ => h_.1))
                      have n7_ := Aside0.mk (Kd.R_lower (Kd.R_new' (Kd.R_new' (Kd.R_new' (Kd.R_new' (Kd.R_new' (Kd.R_new' (Kd.R_new' ho0 (Kd.Q_lt (by (with_reducible repeat (first | apply Kd.Q_alloc | apply Kd.Q_drewN | apply Kd.Q_drew)); exact HO_679000.out))) (Kd.R_lt (rP HO_679001))) (Kd.R_lt (rP HO683))) (Kd.R_lt (rP HO687))) (Kd.R_lt (rP HO690))) (Kd.R_lt (rP HO695))) (Kd.R_lt (rP HO698))) (below_size (bP HB)))
                      have n8_ := Aside0.mk (Kd.R_lower (Kd.R_new' (Kd.R_new' (Kd.R_new' (Kd.R_new' (Kd.R_new' (Kd.R_new' (Kd.R_new' ho1 (Kd.Q_lt (by (with_reducible repeat (first | apply Kd.Q_alloc | apply Kd.Q_drewN | apply Kd.Q_drew)); exact HO_679000.out))) (Kd.R_lt (rP HO_679001))) (Kd.R_lt (rP HO683))) (Kd.R_lt (rP HO687))) (Kd.R_lt (rP HO690))) (Kd.R_lt (rP HO695))) (Kd.R_lt (rP HO698))) (below_size (bP HB)))
                      have n9_ := kB BK678 hb
                      have n10_ := kB BK692 hb
                      have n11_ := kB BK700 hb
                      have n12_ := bS HB hb
                      clear HO_679000
                      clear HO_679001
                      clear HO683
                      clear HO687
                      clear HO690
                      clear HO695
                      clear HO698
                      clear BK678
                      clear BK692
                      clear BK700
                      clear HB
                      have HO_679000 := n0_
                      have HO_679001 := n1_
                      have HO683 := n2_
                      have HO687 := n3_
                      have HO690 := n4_
                      have HO695 := n5_
                      have HO698 := n6_
                      have HO703 := n7_
                      have HO706 := n8_
                      have BK678 := n9_
                      have BK692 := n10_
                      have BK700 := n11_
                      have HB := n12_
                      clear n0_ n1_ n2_ n3_ n4_ n5_ n6_ n7_ n8_ n9_ n10_ n11_ n12_
                      (try clear hb)
                      (try clear hb2)
                      (try clear hk)
                      (try clear hi)
                      (try clear ho0)
                      (try clear ho1)
                      refine hK.out _ _ ⟨(blk_cell BK678.out 0).trans rfl, (blk_cell BK678.out 1).trans rfl⟩ (fun hHeld => ?_)
                      clear hK K
                      refine norm_ (a' := ?_) ?_ ?_
                      rotate_left
                      ·show Act.put _ (some 63) _ = _
                       simp only [Act.put, List.setIfInBounds_toArray, List.set_cons_zero, List.set_cons_succ, i64_w, i32_w]
                       rfl
                      refine pure_ (i := 8) (N := some 55) (v := ?_) (a' := ?_) #[true, true, true, true, true, true, true, true, true, false, false, false, false, false] rfl rfl (any_of HT_.out (by kernel_rfl)) (fun _ _ _ h => h) (Or.inl ⟨by rfl, ?_⟩) ?_ ?_
                      rotate_left
                      ·intro w'
                       go_simp
                       with_reducible rfl
                      rotate_left
                      ·simp only [Act.put, List.setIfInBounds_toArray, List.set_cons_zero, List.set_cons_succ, i64_w, i32_w]
                       rfl
                      refine pure_ (i := 9) (N := some 64) (v := ?_) (a' := ?_) #[true, true, true, true, true, true, true, true, true, true, false, false, false, false] rfl rfl (any_of HT_.out (by kernel_rfl)) (fun _ _ _ h => h) (Or.inl ⟨by rfl, ?_⟩) ?_ ?_
                      rotate_left
                      ·intro w'
                       go_simp
                       with_reducible rfl
                      rotate_left
                      ·simp only [Act.put, List.setIfInBounds_toArray, List.set_cons_zero, List.set_cons_succ, i64_w, i32_w]
                       rfl
                      refine pure_ (i := 10) (N := some 65) (v := ?_) (a' := ?_) #[true, true, true, true, true, true, true, true, true, true, true, false, false, false] rfl rfl (any_of HT_.out (by kernel_rfl)) (fun _ _ _ h => h) (Or.inl ⟨by rfl, ?_⟩) ?_ ?_
                      rotate_left
                      ·intro w'
                       go_simp
                       with_reducible rfl
                      rotate_left
                      ·simp only [Act.put, List.setIfInBounds_toArray, List.set_cons_zero, List.set_cons_succ, i64_w, i32_w]
                       rfl
                      refine one_ (i := 11) (N := some 14) #[true, true, true, true, true, true, true, true, true, true, true, true, false, false] rfl rfl (one_of HT_.out (by kernel_rfl)) (by decide) (fun K hK => ?_)
                      refine box_step ?hg (N := 14) ?hd (cs := #[.slice none 0 0, .slice none 0 0]) (t := 25) ?hr ?_; (case hd => rfl); (case hg => rfl); (case hr => first | (go_simp; done) | (go_simp; rfl))
                      intro gb708 hg w60 hbox hb
                      have n0_ := Aside0.mk (Kd.Q_below (by (with_reducible repeat (first | apply Kd.Q_alloc | apply Kd.Q_drewN | apply Kd.Q_drew)); exact HO_679000.out) hb)
                      have n1_ := rB HO_679001 hb
                      have n2_ := rB HO683 hb
                      have n3_ := rB HO687 hb
                      have n4_ := rB HO690 hb
                      have n5_ := rB HO695 hb
                      have n6_ := rB HO698 hb
                      have n7_ := rB HO703 hb
                      have n8_ := rB HO706 hb
                      have n9_ := kB BK678 hb
                      have n10_ := kB BK692 hb
                      have n11_ := kB BK700 hb
                      have n12_ := bS HB hb
                      have n13_ := Aside0.mk (hbox)
                      have n14_ := gS HB hg
                      have n15_ := gS HB hg
                      have n16_ := nL BK678 hg
                      have n17_ := nG BK678 hg
                      have n18_ := nL BK692 hg
                      have n19_ := nG BK692 hg
                      have n20_ := nL BK700 hg
                      have n21_ := nG BK700 hg
                      clear HO_679000
                      clear HO_679001
                      clear HO683
                      clear HO687
                      clear HO690
                      clear HO695
                      clear HO698
                      clear HO703
                      clear HO706
                      clear BK678
                      clear BK692
                      clear BK700
                      clear HB
                      have HO_679000 := n0_
                      have HO_679001 := n1_
                      have HO683 := n2_
                      have HO687 := n3_
                      have HO690 := n4_
                      have HO695 := n5_
                      have HO698 := n6_
                      have HO703 := n7_
                      have HO706 := n8_
                      have BK678 := n9_
                      have BK692 := n10_
                      have BK700 := n11_
                      have HB := n12_
                      have BK708 := n13_
                      have GW708 := n14_
                      have GE708 := n15_
                      have NB678_708 := n16_
                      have NB708_678 := n17_
                      have NB692_708 := n18_
                      have NB708_692 := n19_
                      have NB700_708 := n20_
                      have NB708_700 := n21_
                      clear n0_ n1_ n2_ n3_ n4_ n5_ n6_ n7_ n8_ n9_ n10_ n11_ n12_ n13_ n14_ n15_ n16_ n17_ n18_ n19_ n20_ n21_
                      clear hb hbox hg
                      refine hK.out _ _ ⟨(blk_cell BK678.out 0).trans rfl, (blk_cell BK678.out 1).trans rfl⟩ (fun hHeld => ?_)
                      clear hK K
                      refine norm_ (a' := ?_) ?_ ?_
                      rotate_left
                      ·show Act.put _ (some 14) _ = _
                       simp only [Act.put, List.setIfInBounds_toArray, List.set_cons_zero, List.set_cons_succ, i64_w, i32_w]
                       rfl
                      exact norm_ (by simp only [putAll, Act.put, List.setIfInBounds_toArray, List.set_cons_zero, List.set_cons_succ]) (hCont (v702, v705, gb708) _ ⟨hHeld, (by (with_reducible repeat (first | apply Kd.R_alloc | apply Kd.R_drewN | apply Kd.R_drew)); exact Kd.R_mono HO683.out (fun _ hk => ⟨hk.1.1.2.2.1, ⟨hk.1.1.2.2.2.1, ⟨hk.1.1.2.2.2.2.1, ⟨hk.1.1.2.2.2.2.2, ⟨hk.1.2, ⟨hk.2, ⟨hk.1.1.1, hk.1.1.2.1⟩⟩⟩⟩⟩⟩⟩)), (by (with_reducible repeat (first | apply Kd.R_alloc | apply Kd.R_drewN | apply Kd.R_drew)); exact Kd.R_mono HO687.out (fun _ hk => ⟨hk.1.1.2.2.1, ⟨hk.1.1.2.2.2.1, ⟨hk.1.1.2.2.2.2.1, ⟨hk.1.1.2.2.2.2.2, ⟨hk.1.2, ⟨hk.2, ⟨hk.1.1.1, hk.1.1.2.1⟩⟩⟩⟩⟩⟩⟩)), (by (with_reducible repeat (first | apply Kd.R_alloc | apply Kd.R_drewN | apply Kd.R_drew)); exact Kd.R_mono HO690.out (fun _ hk => ⟨hk.1.1.2.2.1, ⟨hk.1.1.2.2.2.1, ⟨hk.1.1.2.2.2.2.1, ⟨hk.1.1.2.2.2.2.2, ⟨hk.1.2, ⟨hk.2, ⟨hk.1.1.1, hk.1.1.2.1⟩⟩⟩⟩⟩⟩⟩)), (by (with_reducible repeat (first | apply Kd.R_alloc | apply Kd.R_drewN | apply Kd.R_drew)); exact Kd.R_mono HO695.out (fun _ hk => ⟨hk.1.1.2.2.1, ⟨hk.1.1.2.2.2.1, ⟨hk.1.1.2.2.2.2.1, ⟨hk.1.1.2.2.2.2.2, ⟨hk.1.2, ⟨hk.2, ⟨hk.1.1.1, hk.1.1.2.1⟩⟩⟩⟩⟩⟩⟩)), (by (with_reducible repeat (first | apply Kd.R_alloc | apply Kd.R_drewN | apply Kd.R_drew)); exact Kd.R_mono HO698.out (fun _ hk => ⟨hk.1.1.2.2.1, ⟨hk.1.1.2.2.2.1, ⟨hk.1.1.2.2.2.2.1, ⟨hk.1.1.2.2.2.2.2, ⟨hk.1.2, ⟨hk.2, ⟨hk.1.1.1, hk.1.1.2.1⟩⟩⟩⟩⟩⟩⟩)), (by (with_reducible repeat (first | apply Kd.R_alloc | apply Kd.R_drewN | apply Kd.R_drew)); exact Kd.R_mono HO703.out (fun _ hk => ⟨hk.1.1.1.1.2, ⟨hk.1.1.1.2, ⟨hk.1.1.2, ⟨hk.1.2, ⟨hk.2, ⟨hk.1.1.1.1.1.1.1, ⟨hk.1.1.1.1.1.1.2, hk.1.1.1.1.1.2⟩⟩⟩⟩⟩⟩⟩)), (by (with_reducible repeat (first | apply Kd.R_alloc | apply Kd.R_drewN | apply Kd.R_drew)); exact Kd.R_mono HO706.out (fun _ hk => ⟨hk.1.1.1.1.2, ⟨hk.1.1.1.2, ⟨hk.1.1.2, ⟨hk.1.2, ⟨hk.2, ⟨hk.1.1.1.1.1.1.1, ⟨hk.1.1.1.1.1.1.2, hk.1.1.1.1.1.2⟩⟩⟩⟩⟩⟩⟩)), (by (with_reducible repeat (first | apply Kd.Q_alloc | apply Kd.Q_drewN | apply Kd.Q_drew)); exact Kd.Q_mono HO_679000.out (fun _ hk => ⟨hk.1.1.2.1, ⟨hk.1.1.2.2.1, ⟨hk.1.1.2.2.2.1, ⟨hk.1.1.2.2.2.2.1, ⟨hk.1.1.2.2.2.2.2, ⟨hk.1.2, ⟨hk.2, hk.1.1.1⟩⟩⟩⟩⟩⟩⟩)), (by (with_reducible repeat (first | apply Kd.R_alloc | apply Kd.R_drewN | apply Kd.R_drew)); exact Kd.R_mono HO_679001.out (fun _ hk => ⟨hk.1.1.2.1, ⟨hk.1.1.2.2.1, ⟨hk.1.1.2.2.2.1, ⟨hk.1.1.2.2.2.2.1, ⟨hk.1.1.2.2.2.2.2, ⟨hk.1.2, ⟨hk.2, hk.1.1.1⟩⟩⟩⟩⟩⟩⟩)), (kP BK678), (kP BK692), (kP BK700), (kP BK708), GW708.out, GE708.out, NB678_708.out, NB708_678.out, NB692_708.out, NB708_692.out, NB700_708.out, NB708_700.out, (bP HB)⟩)
                     ·skip
                      refine box_step ?hg (N := 14) ?hd (cs := #[.slice none 0 0, .slice none 0 0]) (t := 25) ?hr ?_; (case hd => rfl); (case hg => rfl); (case hr => first | (go_simp; done) | (go_simp; rfl))
                      intro gb708 hg w59 hbox hb
                      have n0_ := Aside0.mk (Kd.Q_below (by (with_reducible repeat (first | apply Kd.Q_alloc | apply Kd.Q_drewN | apply Kd.Q_drew)); exact HO_679000.out) hb)
                      have n1_ := rB HO_679001 hb
                      have n2_ := rB HO683 hb
                      have n3_ := rB HO687 hb
                      have n4_ := rB HO690 hb
                      have n5_ := rB HO695 hb
                      have n6_ := rB HO698 hb
                      have n7_ := kB BK678 hb
                      have n8_ := kB BK692 hb
                      have n9_ := kB BK700 hb
                      have n10_ := bS HB hb
                      have n11_ := Aside0.mk (hbox)
                      have n12_ := gS HB hg
                      have n13_ := gS HB hg
                      have n14_ := nL BK678 hg
                      have n15_ := nG BK678 hg
                      have n16_ := nL BK692 hg
                      have n17_ := nG BK692 hg
                      have n18_ := nL BK700 hg
                      have n19_ := nG BK700 hg
                      clear HO_679000
                      clear HO_679001
                      clear HO683
                      clear HO687
                      clear HO690
                      clear HO695
                      clear HO698
                      clear BK678
                      clear BK692
                      clear BK700
                      clear HB
                      have HO_679000 := n0_
                      have HO_679001 := n1_
                      have HO683 := n2_
                      have HO687 := n3_
                      have HO690 := n4_
                      have HO695 := n5_
                      have HO698 := n6_
                      have BK678 := n7_
                      have BK692 := n8_
                      have BK700 := n9_
                      have HB := n10_
                      have BK708 := n11_
                      have GW708 := n12_
                      have GE708 := n13_
                      have NB678_708 := n14_
                      have NB708_678 := n15_
                      have NB692_708 := n16_
                      have NB708_692 := n17_
                      have NB700_708 := n18_
                      have NB708_700 := n19_
                      clear n0_ n1_ n2_ n3_ n4_ n5_ n6_ n7_ n8_ n9_ n10_ n11_ n12_ n13_ n14_ n15_ n16_ n17_ n18_ n19_
                      clear hb hbox hg
                      refine hK.out _ _ ⟨(blk_cell BK678.out 0).trans rfl, (blk_cell BK678.out 1).trans rfl⟩ (fun hHeld => ?_)
                      clear hK K
                      refine norm_ (a' := ?_) ?_ ?_
                      rotate_left
                      ·show Act.put _ (some 14) _ = _
                       simp only [Act.put, List.setIfInBounds_toArray, List.set_cons_zero, List.set_cons_succ, i64_w, i32_w]
                       rfl
                      refine one_ (i := 7) (N := some 63) #[true, true, true, true, true, true, true, true, false, false, false, true, false, false] rfl rfl (one_of HT_.out (by kernel_rfl)) (by decide) (fun K hK => ?_)
                      refine goes_ Try.func29 (by kernel_rfl) rfl #[.agg #[.slice Ao12 t672.length co12, .slice Ao14 t675.length co14], .int .i64 ((l1.length : Int) % (t672.length : Int))] (by rfl) rfl rfl (by (try simp only [List.map_toArray, List.map_cons, List.map_nil]); first | done | rfl | (simp only [List.length_drop, List.length_take]; rfl)) ?_
                      with_reducible refine (impl_MapForm.calls kj8 _ _ t672 _ _ t675 ((l1.length : Int) % (t672.length : Int)) t701 t704 true _ ?side1 ?side2 ?side3 ?side4 A24.out).mono ?_
                      (case side1 => exact cP (Kd.Q_reads' HO_679000.out).2.2)
                      (case side2 => exact (Kd.Q_reads' HO_679000.out).2.1)
                      (case side3 => exact cP (Kd.R_reads' HO_679001.out).2.2)
                      (case side4 => exact (Kd.R_reads' HO_679001.out).2.1)
                      rintro e w60 ⟨v702, v705, rfl, ho0, ho1, hb⟩
                      refine ⟨_, rfl, ?_⟩
                      have n0_ := Aside0.mk (Kd.Q_mono (Kd.Q_told (Kd.Q_told (Kd.Q_old (by (with_reducible repeat (first | apply Kd.Q_alloc | apply Kd.Q_drewN | apply Kd.Q_drew)); exact HO_679000.out) hb) (Kd.R_base ho0)) (Kd.R_base ho1)) (fun _ h_ => h_.1))
                      have n1_ := Aside0.mk (Kd.R_mono (Kd.R_told (Kd.R_told (Kd.R_old (rP HO_679001) hb) (Kd.R_base ho0)) (Kd.R_base ho1)) (fun _ h_ => h_.1))
                      have n2_ := Aside0.mk (Kd.R_mono (Kd.R_told (Kd.R_told (Kd.R_old (rP HO683) hb) (Kd.R_base ho0)) (Kd.R_base ho1)) (fun _ h_ => h_.1))
                      have n3_ := Aside0.mk (Kd.R_mono (Kd.R_told (Kd.R_told (Kd.R_old (rP HO687) hb) (Kd.R_base ho0)) (Kd.R_base ho1)) (fun _ h_ => h_.1))
                      have n4_ := Aside0.mk (Kd.R_mono (Kd.R_told (Kd.R_told (Kd.R_old (rP HO690) hb) (Kd.R_base ho0)) (Kd.R_base ho1)) (fun _ h_ => h_.1))
                      have n5_ := Aside0.mk (Kd.R_mono (Kd.R_told (Kd.R_told (Kd.R_old (rP HO695) hb) (Kd.R_base ho0)) (Kd.R_base ho1)) (fun _ h_ => h_.1))
                      have n6_ := Aside0.mk (Kd.R_mono (Kd.R_told (Kd.R_told (Kd.R_old (rP HO698) hb) (Kd.R_base ho0)) (Kd.R_base ho1)) (fun _ h_ => h_.1))
                      have n7_ := Aside0.mk (Kd.R_lower (Kd.R_new' (Kd.R_new' (Kd.R_new' (Kd.R_new' (Kd.R_new' (Kd.R_new' (Kd.R_new' ho0 (Kd.Q_lt (by (with_reducible repeat (first | apply Kd.Q_alloc | apply Kd.Q_drewN | apply Kd.Q_drew)); exact HO_679000.out))) (Kd.R_lt (rP HO_679001))) (Kd.R_lt (rP HO683))) (Kd.R_lt (rP HO687))) (Kd.R_lt (rP HO690))) (Kd.R_lt (rP HO695))) (Kd.R_lt (rP HO698))) (below_size (bP HB)))
                      have n8_ := Aside0.mk (Kd.R_lower (Kd.R_new' (Kd.R_new' (Kd.R_new' (Kd.R_new' (Kd.R_new' (Kd.R_new' (Kd.R_new' ho1 (Kd.Q_lt (by (with_reducible repeat (first | apply Kd.Q_alloc | apply Kd.Q_drewN | apply Kd.Q_drew)); exact HO_679000.out))) (Kd.R_lt (rP HO_679001))) (Kd.R_lt (rP HO683))) (Kd.R_lt (rP HO687))) (Kd.R_lt (rP HO690))) (Kd.R_lt (rP HO695))) (Kd.R_lt (rP HO698))) (below_size (bP HB)))
                      have n9_ := kB BK678 hb
                      have n10_ := kB BK692 hb
                      have n11_ := kB BK700 hb
                      have n12_ := kB BK708 hb
                      have n13_ := bS HB hb
                      clear HO_679000
                      clear HO_679001
                      clear HO683
                      clear HO687
                      clear HO690
                      clear HO695
                      clear HO698
                      clear BK678
                      clear BK692
                      clear BK700
                      clear BK708
                      clear HB
                      have HO_679000 := n0_
                      have HO_679001 := n1_
                      have HO683 := n2_
                      have HO687 := n3_
                      have HO690 := n4_
                      have HO695 := n5_
                      have HO698 := n6_
                      have HO703 := n7_
                      have HO706 := n8_
                      have BK678 := n9_
                      have BK692 := n10_
                      have BK700 := n11_
                      have BK708 := n12_
                      have HB := n13_
                      clear n0_ n1_ n2_ n3_ n4_ n5_ n6_ n7_ n8_ n9_ n10_ n11_ n12_ n13_
                      (try clear hb)
                      (try clear hb2)
                      (try clear hk)
                      (try clear hi)
                      (try clear ho0)
                      (try clear ho1)
                      refine hK.out _ _ ⟨(blk_cell BK678.out 0).trans rfl, (blk_cell BK678.out 1).trans rfl⟩ (fun hHeld => ?_)
                      clear hK K
                      refine norm_ (a' := ?_) ?_ ?_
                      rotate_left
                      ·show Act.put _ (some 63) _ = _
                       simp only [Act.put, List.setIfInBounds_toArray, List.set_cons_zero, List.set_cons_succ, i64_w, i32_w]
                       rfl
                      refine pure_ (i := 8) (N := some 55) (v := ?_) (a' := ?_) #[true, true, true, true, true, true, true, true, true, false, false, true, false, false] rfl rfl (any_of HT_.out (by kernel_rfl)) (fun _ _ _ h => h) (Or.inl ⟨by rfl, ?_⟩) ?_ ?_
                      rotate_left
                      ·intro w'
                       go_simp
                       with_reducible rfl
                      rotate_left
                      ·simp only [Act.put, List.setIfInBounds_toArray, List.set_cons_zero, List.set_cons_succ, i64_w, i32_w]
                       rfl
                      refine pure_ (i := 9) (N := some 64) (v := ?_) (a' := ?_) #[true, true, true, true, true, true, true, true, true, true, false, true, false, false] rfl rfl (any_of HT_.out (by kernel_rfl)) (fun _ _ _ h => h) (Or.inl ⟨by rfl, ?_⟩) ?_ ?_
                      rotate_left
                      ·intro w'
                       go_simp
                       with_reducible rfl
                      rotate_left
                      ·simp only [Act.put, List.setIfInBounds_toArray, List.set_cons_zero, List.set_cons_succ, i64_w, i32_w]
                       rfl
                      refine pure_ (i := 10) (N := some 65) (v := ?_) (a' := ?_) #[true, true, true, true, true, true, true, true, true, true, true, true, false, false] rfl rfl (any_of HT_.out (by kernel_rfl)) (fun _ _ _ h => h) (Or.inl ⟨by rfl, ?_⟩) ?_ ?_
                      rotate_left
                      ·intro w'
                       go_simp
                       with_reducible rfl
                      rotate_left
                      ·simp only [Act.put, List.setIfInBounds_toArray, List.set_cons_zero, List.set_cons_succ, i64_w, i32_w]
                       rfl
                      exact norm_ (by simp only [putAll, Act.put, List.setIfInBounds_toArray, List.set_cons_zero, List.set_cons_succ]) (hCont (v702, v705, gb708) _ ⟨hHeld, (by (with_reducible repeat (first | apply Kd.R_alloc | apply Kd.R_drewN | apply Kd.R_drew)); exact Kd.R_mono HO683.out (fun _ hk => ⟨hk.1.1.2.2.1, ⟨hk.1.1.2.2.2.1, ⟨hk.1.1.2.2.2.2.1, ⟨hk.1.1.2.2.2.2.2, ⟨hk.1.2, ⟨hk.2, ⟨hk.1.1.1, hk.1.1.2.1⟩⟩⟩⟩⟩⟩⟩)), (by (with_reducible repeat (first | apply Kd.R_alloc | apply Kd.R_drewN | apply Kd.R_drew)); exact Kd.R_mono HO687.out (fun _ hk => ⟨hk.1.1.2.2.1, ⟨hk.1.1.2.2.2.1, ⟨hk.1.1.2.2.2.2.1, ⟨hk.1.1.2.2.2.2.2, ⟨hk.1.2, ⟨hk.2, ⟨hk.1.1.1, hk.1.1.2.1⟩⟩⟩⟩⟩⟩⟩)), (by (with_reducible repeat (first | apply Kd.R_alloc | apply Kd.R_drewN | apply Kd.R_drew)); exact Kd.R_mono HO690.out (fun _ hk => ⟨hk.1.1.2.2.1, ⟨hk.1.1.2.2.2.1, ⟨hk.1.1.2.2.2.2.1, ⟨hk.1.1.2.2.2.2.2, ⟨hk.1.2, ⟨hk.2, ⟨hk.1.1.1, hk.1.1.2.1⟩⟩⟩⟩⟩⟩⟩)), (by (with_reducible repeat (first | apply Kd.R_alloc | apply Kd.R_drewN | apply Kd.R_drew)); exact Kd.R_mono HO695.out (fun _ hk => ⟨hk.1.1.2.2.1, ⟨hk.1.1.2.2.2.1, ⟨hk.1.1.2.2.2.2.1, ⟨hk.1.1.2.2.2.2.2, ⟨hk.1.2, ⟨hk.2, ⟨hk.1.1.1, hk.1.1.2.1⟩⟩⟩⟩⟩⟩⟩)), (by (with_reducible repeat (first | apply Kd.R_alloc | apply Kd.R_drewN | apply Kd.R_drew)); exact Kd.R_mono HO698.out (fun _ hk => ⟨hk.1.1.2.2.1, ⟨hk.1.1.2.2.2.1, ⟨hk.1.1.2.2.2.2.1, ⟨hk.1.1.2.2.2.2.2, ⟨hk.1.2, ⟨hk.2, ⟨hk.1.1.1, hk.1.1.2.1⟩⟩⟩⟩⟩⟩⟩)), (by (with_reducible repeat (first | apply Kd.R_alloc | apply Kd.R_drewN | apply Kd.R_drew)); exact Kd.R_mono HO703.out (fun _ hk => ⟨hk.1.1.1.1.2, ⟨hk.1.1.1.2, ⟨hk.1.1.2, ⟨hk.1.2, ⟨hk.2, ⟨hk.1.1.1.1.1.1.1, ⟨hk.1.1.1.1.1.1.2, hk.1.1.1.1.1.2⟩⟩⟩⟩⟩⟩⟩)), (by (with_reducible repeat (first | apply Kd.R_alloc | apply Kd.R_drewN | apply Kd.R_drew)); exact Kd.R_mono HO706.out (fun _ hk => ⟨hk.1.1.1.1.2, ⟨hk.1.1.1.2, ⟨hk.1.1.2, ⟨hk.1.2, ⟨hk.2, ⟨hk.1.1.1.1.1.1.1, ⟨hk.1.1.1.1.1.1.2, hk.1.1.1.1.1.2⟩⟩⟩⟩⟩⟩⟩)), (by (with_reducible repeat (first | apply Kd.Q_alloc | apply Kd.Q_drewN | apply Kd.Q_drew)); exact Kd.Q_mono HO_679000.out (fun _ hk => ⟨hk.1.1.2.1, ⟨hk.1.1.2.2.1, ⟨hk.1.1.2.2.2.1, ⟨hk.1.1.2.2.2.2.1, ⟨hk.1.1.2.2.2.2.2, ⟨hk.1.2, ⟨hk.2, hk.1.1.1⟩⟩⟩⟩⟩⟩⟩)), (by (with_reducible repeat (first | apply Kd.R_alloc | apply Kd.R_drewN | apply Kd.R_drew)); exact Kd.R_mono HO_679001.out (fun _ hk => ⟨hk.1.1.2.1, ⟨hk.1.1.2.2.1, ⟨hk.1.1.2.2.2.1, ⟨hk.1.1.2.2.2.2.1, ⟨hk.1.1.2.2.2.2.2, ⟨hk.1.2, ⟨hk.2, hk.1.1.1⟩⟩⟩⟩⟩⟩⟩)), (kP BK678), (kP BK692), (kP BK700), (kP BK708), GW708.out, GE708.out, NB678_708.out, NB708_678.out, NB692_708.out, NB708_692.out, NB700_708.out, NB708_700.out, (bP HB)⟩)
                    rintro ⟨v702, v705, gb708⟩ w61 ⟨hS_, h0_, h1_, h2_, h3_, h4_, h5_, h6_, h7_, h8_, h9_, h10_, h11_, h12_, h13_, h14_, h15_, h16_, h17_, h18_, h19_, h20_, h21_⟩
                    have n0_ : Aside0 (Kd.R (Kd.int .i64) 3 w61 w.heap.size (fun k_ => oN k_ Ao45 t685 co45 ∧ oN k_ Ao48 t688 co48 ∧ oN k_ Ao52 t693 co52 ∧ oN k_ Ao56 t696 co56 ∧ some k_ ≠ (v702 : Value).ownBlock ∧ some k_ ≠ (v705 : Value).ownBlock ∧ oN k_ Ao12 t672 co12 ∧ oN k_ Ao14 t675 co14) v682 t681) := ⟨h0_⟩
                    have n1_ : Aside0 (Kd.R (Kd.int .i64) 3 w61 w.heap.size (fun k_ => some k_ ≠ (v682 : Value).ownBlock ∧ oN k_ Ao48 t688 co48 ∧ oN k_ Ao52 t693 co52 ∧ oN k_ Ao56 t696 co56 ∧ some k_ ≠ (v702 : Value).ownBlock ∧ some k_ ≠ (v705 : Value).ownBlock ∧ oN k_ Ao12 t672 co12 ∧ oN k_ Ao14 t675 co14) (.slice Ao45 t685.length co45) t685) := ⟨h1_⟩
                    have n2_ : Aside0 (Kd.R (Kd.int .i64) 3 w61 w.heap.size (fun k_ => some k_ ≠ (v682 : Value).ownBlock ∧ oN k_ Ao45 t685 co45 ∧ oN k_ Ao52 t693 co52 ∧ oN k_ Ao56 t696 co56 ∧ some k_ ≠ (v702 : Value).ownBlock ∧ some k_ ≠ (v705 : Value).ownBlock ∧ oN k_ Ao12 t672 co12 ∧ oN k_ Ao14 t675 co14) (.slice Ao48 t688.length co48) t688) := ⟨h2_⟩
                    have n3_ : Aside0 (Kd.R (Kd.int .i64) 3 w61 w.heap.size (fun k_ => some k_ ≠ (v682 : Value).ownBlock ∧ oN k_ Ao45 t685 co45 ∧ oN k_ Ao48 t688 co48 ∧ oN k_ Ao56 t696 co56 ∧ some k_ ≠ (v702 : Value).ownBlock ∧ some k_ ≠ (v705 : Value).ownBlock ∧ oN k_ Ao12 t672 co12 ∧ oN k_ Ao14 t675 co14) (.slice Ao52 t693.length co52) t693) := ⟨h3_⟩
                    have n4_ : Aside0 (Kd.R (Kd.int .i64) 3 w61 w.heap.size (fun k_ => some k_ ≠ (v682 : Value).ownBlock ∧ oN k_ Ao45 t685 co45 ∧ oN k_ Ao48 t688 co48 ∧ oN k_ Ao52 t693 co52 ∧ some k_ ≠ (v702 : Value).ownBlock ∧ some k_ ≠ (v705 : Value).ownBlock ∧ oN k_ Ao12 t672 co12 ∧ oN k_ Ao14 t675 co14) (.slice Ao56 t696.length co56) t696) := ⟨h4_⟩
                    have n5_ : Aside0 (Kd.R (Kd.int .i64) 3 w61 w.heap.size (fun k_ => some k_ ≠ (v682 : Value).ownBlock ∧ oN k_ Ao45 t685 co45 ∧ oN k_ Ao48 t688 co48 ∧ oN k_ Ao52 t693 co52 ∧ oN k_ Ao56 t696 co56 ∧ some k_ ≠ (v705 : Value).ownBlock ∧ oN k_ Ao12 t672 co12 ∧ oN k_ Ao14 t675 co14) v702 t701) := ⟨h5_⟩
                    have n6_ : Aside0 (Kd.R (Kd.int .i64) 3 w61 w.heap.size (fun k_ => some k_ ≠ (v682 : Value).ownBlock ∧ oN k_ Ao45 t685 co45 ∧ oN k_ Ao48 t688 co48 ∧ oN k_ Ao52 t693 co52 ∧ oN k_ Ao56 t696 co56 ∧ some k_ ≠ (v702 : Value).ownBlock ∧ oN k_ Ao12 t672 co12 ∧ oN k_ Ao14 t675 co14) v705 t704) := ⟨h6_⟩
                    have n7_ : Aside0 (Kd.Q (Kd.int .i64) 3 w61 w.heap.size (fun k_ => some k_ ≠ (v682 : Value).ownBlock ∧ oN k_ Ao45 t685 co45 ∧ oN k_ Ao48 t688 co48 ∧ oN k_ Ao52 t693 co52 ∧ oN k_ Ao56 t696 co56 ∧ some k_ ≠ (v702 : Value).ownBlock ∧ some k_ ≠ (v705 : Value).ownBlock ∧ oN k_ Ao14 t675 co14) (.slice Ao12 t672.length co12) t672) := ⟨h7_⟩
                    have n8_ : Aside0 (Kd.R (Kd.int .i64) 3 w61 w.heap.size (fun k_ => some k_ ≠ (v682 : Value).ownBlock ∧ oN k_ Ao45 t685 co45 ∧ oN k_ Ao48 t688 co48 ∧ oN k_ Ao52 t693 co52 ∧ oN k_ Ao56 t696 co56 ∧ some k_ ≠ (v702 : Value).ownBlock ∧ some k_ ≠ (v705 : Value).ownBlock ∧ oN k_ Ao12 t672 co12) (.slice Ao14 t675.length co14) t675) := ⟨h8_⟩
                    have n9_ : Aside0 (w61.heap[gb678]? = some (.cells #[.slice Ao12 t672.length co12, .slice Ao14 t675.length co14] 25 (0, 0))) := ⟨h9_⟩
                    have n10_ : Aside0 (w61.heap[gb692]? = some (.cells #[.slice Ao45 t685.length co45, .slice Ao48 t688.length co48] 25 (0, 0))) := ⟨h10_⟩
                    have n11_ : Aside0 (w61.heap[gb700]? = some (.cells #[.slice Ao52 t693.length co52, .slice Ao56 t696.length co56] 25 (0, 0))) := ⟨h11_⟩
                    have n12_ : Aside0 (w61.heap[gb708]? = some (.cells #[.slice none 0 0, .slice none 0 0] 25 (0, 0))) := ⟨h12_⟩
                    have n13_ : Aside0 (w.heap.size ≤ gb708) := ⟨h13_⟩
                    have n14_ : Aside0 (w.heap.size ≤ gb708) := ⟨h14_⟩
                    have n15_ : Aside0 (gb678 ≠ gb708) := ⟨h15_⟩
                    have n16_ : Aside0 (gb708 ≠ gb678) := ⟨h16_⟩
                    have n17_ : Aside0 (gb692 ≠ gb708) := ⟨h17_⟩
                    have n18_ : Aside0 (gb708 ≠ gb692) := ⟨h18_⟩
                    have n19_ : Aside0 (gb700 ≠ gb708) := ⟨h19_⟩
                    have n20_ : Aside0 (gb708 ≠ gb700) := ⟨h20_⟩
                    have n21_ : Aside0 (Below w.heap.size w w61) := ⟨h21_⟩
                    clear HO_679000
                    clear HO_679001
                    clear HO683
                    clear HO687
                    clear HO690
                    clear HO695
                    clear HO698
                    clear BK678
                    clear BK692
                    clear BK700
                    clear HB
                    clear h0_ h1_ h2_ h3_ h4_ h5_ h6_ h7_ h8_ h9_ h10_ h11_ h12_ h13_ h14_ h15_ h16_ h17_ h18_ h19_ h20_ h21_
                    have HO683 := n0_
                    have HO687 := n1_
                    have HO690 := n2_
                    have HO695 := n3_
                    have HO698 := n4_
                    have HO703 := n5_
                    have HO706 := n6_
                    have HO_679000 := n7_
                    have HO_679001 := n8_
                    have BK678 := n9_
                    have BK692 := n10_
                    have BK700 := n11_
                    have BK708 := n12_
                    have GW708 := n13_
                    have GE708 := n14_
                    have NB678_708 := n15_
                    have NB708_678 := n16_
                    have NB692_708 := n17_
                    have NB708_692 := n18_
                    have NB700_708 := n19_
                    have NB708_700 := n20_
                    have HB := n21_
                    clear n0_ n1_ n2_ n3_ n4_ n5_ n6_ n7_ n8_ n9_ n10_ n11_ n12_ n13_ n14_ n15_ n16_ n17_ n18_ n19_ n20_ n21_
                    have hHeld : w61.cell? ⟨gb678, 0, none⟩ = some (.slice Ao12 t672.length co12) ∧ w61.cell? ⟨gb678, 1, none⟩ = some (.slice Ao14 t675.length co14) := hS_
                    obtain ⟨Ao62, co62, eo62⟩ := Kd.R_slice HO703.out
                    (first | subst eo62 | (injection eo62 with f1_ f2_ f3_; have f4_ := f1_.symm; have f5_ := f3_.symm; clear f1_ f2_ f3_; subst f4_; subst f5_))
                    obtain ⟨Ao64, co64, eo64⟩ := Kd.R_slice HO706.out
                    (first | subst eo64 | (injection eo64 with f1_ f2_ f3_; have f4_ := f1_.symm; have f5_ := f3_.symm; clear f1_ f2_ f3_; subst f4_; subst f5_))
                    refine norm_ (a' := ?_) ?_ ?_
                    rotate_left
                    ·simp only [putAll, Act.put, List.setIfInBounds_toArray, List.set_cons_zero, List.set_cons_succ]
                     rfl
                    refine one_ (i := 12) (N := none) #[true, true, true, true, true, true, true, true, true, true, true, true, true, false] rfl rfl (one_of HT_.out (by kernel_rfl)) (by decide) (fun K hK => ?_)
                    have hs63 : w61.cell? ⟨gb708, 0, none⟩ = some (.slice none 0 0) := (blk_cell BK708.out 0).trans rfl
                    have hfs63 := blk_frozen BK708.out 0
                    have hns63_0 := NB678_708.out
                    have hns63_1 := NB692_708.out
                    have hns63_2 := NB700_708.out
                    have hms63_0 := NB708_678.out
                    have hms63_1 := NB708_692.out
                    have hms63_2 := NB708_700.out
                    have hs65 : w61.cell? ⟨gb708, 1, none⟩ = some (.slice none 0 0) := (blk_cell BK708.out 1).trans rfl
                    have hfs65 := blk_frozen BK708.out 1
                    have hns65_0 := NB678_708.out
                    have hns65_1 := NB692_708.out
                    have hns65_2 := NB700_708.out
                    have hms65_0 := NB708_678.out
                    have hms65_1 := NB708_692.out
                    have hms65_2 := NB708_700.out
                    refine skip_ (w1 := ?_) (by rfl) rfl ?_ ?_
                    rotate_left
                    ·go_simp
                     rfl
                    refine hK.out _ _ ⟨((cell_far (p := ⟨gb708, _, none⟩) NB678_708.out _).trans (((cell_far (p := ⟨gb708, _, none⟩) NB678_708.out _).trans (hHeld.1)))), ((cell_far (p := ⟨gb708, _, none⟩) NB678_708.out _).trans (((cell_far (p := ⟨gb708, _, none⟩) NB678_708.out _).trans (hHeld.2))))⟩ (fun hHeld => ?_)
                    clear hK K
                    refine pure_ (i := 13) (N := some 15) (v := ?_) (a' := ?_) #[true, true, true, true, true, true, true, true, true, true, true, true, true, true] rfl rfl (any_of HT_.out (by kernel_rfl)) (fun _ _ _ h => h) (Or.inl ⟨by rfl, ?_⟩) ?_ ?_
                    rotate_left
                    ·intro w'
                     go_simp
                     with_reducible rfl
                    rotate_left
                    ·simp only [Act.put, List.setIfInBounds_toArray, List.set_cons_zero, List.set_cons_succ, i64_w, i32_w]
                     rfl
                    refine done_ (done_of HT_.out (by kernel_rfl)) ?_
                    try go_wp2
                    have n0_ : Aside0 (Kd.Q (Kd.int .i64) 3 ((w61.setCell ⟨gb708, 0, none⟩ (.slice Ao62 t701.length co62)).setCell ⟨gb708, 1, none⟩ (.slice Ao64 t704.length co64)) w.heap.size (fun k_ => oN k_ Ao14 t675 co14 ∧ some k_ ≠ (v682 : Value).ownBlock ∧ oN k_ Ao45 t685 co45 ∧ oN k_ Ao48 t688 co48 ∧ oN k_ Ao52 t693 co52 ∧ oN k_ Ao56 t696 co56 ∧ oN k_ Ao62 t701 co62 ∧ oN k_ Ao64 t704 co64) (.slice Ao12 t672.length co12) t672) := ⟨by (with_reducible repeat (first | apply Kd.Q_alloc | apply Kd.Q_drewN | apply Kd.Q_drew)); exact Kd.Q_mono (Kd.Q_far (p := ⟨gb708, 1, none⟩) (Kd.Q_far (p := ⟨gb708, 0, none⟩) (Kd.Q_types HO_679000.out BK708.out (by decide)) (fun _ hk => hk.2) (.slice Ao62 t701.length co62)) (fun _ hk => hk.2) (.slice Ao64 t704.length co64)) (fun _ hk => ⟨hk.1.2.2.2.2.2.2.2, ⟨hk.1.1, ⟨hk.1.2.1, ⟨hk.1.2.2.1, ⟨hk.1.2.2.2.1, ⟨hk.1.2.2.2.2.1, ⟨hk.1.2.2.2.2.2.1, hk.1.2.2.2.2.2.2.1⟩⟩⟩⟩⟩⟩⟩)⟩
                    have n1_ : Aside0 (Kd.R (Kd.int .i64) 3 ((w61.setCell ⟨gb708, 0, none⟩ (.slice Ao62 t701.length co62)).setCell ⟨gb708, 1, none⟩ (.slice Ao64 t704.length co64)) w.heap.size (fun k_ => oN k_ Ao12 t672 co12 ∧ some k_ ≠ (v682 : Value).ownBlock ∧ oN k_ Ao45 t685 co45 ∧ oN k_ Ao48 t688 co48 ∧ oN k_ Ao52 t693 co52 ∧ oN k_ Ao56 t696 co56 ∧ oN k_ Ao62 t701 co62 ∧ oN k_ Ao64 t704 co64) (.slice Ao14 t675.length co14) t675) := ⟨by (with_reducible repeat (first | apply Kd.R_alloc | apply Kd.R_drewN | apply Kd.R_drew)); exact Kd.R_mono (Kd.R_far (p := ⟨gb708, 1, none⟩) (Kd.R_far (p := ⟨gb708, 0, none⟩) (Kd.R_types HO_679001.out BK708.out (by decide)) (fun _ hk => hk.2) (.slice Ao62 t701.length co62)) (fun _ hk => hk.2) (.slice Ao64 t704.length co64)) (fun _ hk => ⟨hk.1.2.2.2.2.2.2.2, ⟨hk.1.1, ⟨hk.1.2.1, ⟨hk.1.2.2.1, ⟨hk.1.2.2.2.1, ⟨hk.1.2.2.2.2.1, ⟨hk.1.2.2.2.2.2.1, hk.1.2.2.2.2.2.2.1⟩⟩⟩⟩⟩⟩⟩)⟩
                    have n2_ : Aside0 (Kd.R (Kd.int .i64) 3 ((w61.setCell ⟨gb708, 0, none⟩ (.slice Ao62 t701.length co62)).setCell ⟨gb708, 1, none⟩ (.slice Ao64 t704.length co64)) w.heap.size (fun k_ => oN k_ Ao12 t672 co12 ∧ oN k_ Ao14 t675 co14 ∧ oN k_ Ao45 t685 co45 ∧ oN k_ Ao48 t688 co48 ∧ oN k_ Ao52 t693 co52 ∧ oN k_ Ao56 t696 co56 ∧ oN k_ Ao62 t701 co62 ∧ oN k_ Ao64 t704 co64) v682 t681) := ⟨by (with_reducible repeat (first | apply Kd.R_alloc | apply Kd.R_drewN | apply Kd.R_drew)); exact Kd.R_mono (Kd.R_far (p := ⟨gb708, 1, none⟩) (Kd.R_far (p := ⟨gb708, 0, none⟩) (Kd.R_types HO683.out BK708.out (by decide)) (fun _ hk => hk.2) (.slice Ao62 t701.length co62)) (fun _ hk => hk.2) (.slice Ao64 t704.length co64)) (fun _ hk => ⟨hk.1.2.2.2.2.2.2.1, ⟨hk.1.2.2.2.2.2.2.2, ⟨hk.1.1, ⟨hk.1.2.1, ⟨hk.1.2.2.1, ⟨hk.1.2.2.2.1, ⟨hk.1.2.2.2.2.1, hk.1.2.2.2.2.2.1⟩⟩⟩⟩⟩⟩⟩)⟩
                    have n3_ : Aside0 (Kd.R (Kd.int .i64) 3 ((w61.setCell ⟨gb708, 0, none⟩ (.slice Ao62 t701.length co62)).setCell ⟨gb708, 1, none⟩ (.slice Ao64 t704.length co64)) w.heap.size (fun k_ => oN k_ Ao12 t672 co12 ∧ oN k_ Ao14 t675 co14 ∧ some k_ ≠ (v682 : Value).ownBlock ∧ oN k_ Ao48 t688 co48 ∧ oN k_ Ao52 t693 co52 ∧ oN k_ Ao56 t696 co56 ∧ oN k_ Ao62 t701 co62 ∧ oN k_ Ao64 t704 co64) (.slice Ao45 t685.length co45) t685) := ⟨by (with_reducible repeat (first | apply Kd.R_alloc | apply Kd.R_drewN | apply Kd.R_drew)); exact Kd.R_mono (Kd.R_far (p := ⟨gb708, 1, none⟩) (Kd.R_far (p := ⟨gb708, 0, none⟩) (Kd.R_types HO687.out BK708.out (by decide)) (fun _ hk => hk.2) (.slice Ao62 t701.length co62)) (fun _ hk => hk.2) (.slice Ao64 t704.length co64)) (fun _ hk => ⟨hk.1.2.2.2.2.2.2.1, ⟨hk.1.2.2.2.2.2.2.2, ⟨hk.1.1, ⟨hk.1.2.1, ⟨hk.1.2.2.1, ⟨hk.1.2.2.2.1, ⟨hk.1.2.2.2.2.1, hk.1.2.2.2.2.2.1⟩⟩⟩⟩⟩⟩⟩)⟩
                    have n4_ : Aside0 (Kd.R (Kd.int .i64) 3 ((w61.setCell ⟨gb708, 0, none⟩ (.slice Ao62 t701.length co62)).setCell ⟨gb708, 1, none⟩ (.slice Ao64 t704.length co64)) w.heap.size (fun k_ => oN k_ Ao12 t672 co12 ∧ oN k_ Ao14 t675 co14 ∧ some k_ ≠ (v682 : Value).ownBlock ∧ oN k_ Ao45 t685 co45 ∧ oN k_ Ao52 t693 co52 ∧ oN k_ Ao56 t696 co56 ∧ oN k_ Ao62 t701 co62 ∧ oN k_ Ao64 t704 co64) (.slice Ao48 t688.length co48) t688) := ⟨by (with_reducible repeat (first | apply Kd.R_alloc | apply Kd.R_drewN | apply Kd.R_drew)); exact Kd.R_mono (Kd.R_far (p := ⟨gb708, 1, none⟩) (Kd.R_far (p := ⟨gb708, 0, none⟩) (Kd.R_types HO690.out BK708.out (by decide)) (fun _ hk => hk.2) (.slice Ao62 t701.length co62)) (fun _ hk => hk.2) (.slice Ao64 t704.length co64)) (fun _ hk => ⟨hk.1.2.2.2.2.2.2.1, ⟨hk.1.2.2.2.2.2.2.2, ⟨hk.1.1, ⟨hk.1.2.1, ⟨hk.1.2.2.1, ⟨hk.1.2.2.2.1, ⟨hk.1.2.2.2.2.1, hk.1.2.2.2.2.2.1⟩⟩⟩⟩⟩⟩⟩)⟩
                    have n5_ : Aside0 (Kd.R (Kd.int .i64) 3 ((w61.setCell ⟨gb708, 0, none⟩ (.slice Ao62 t701.length co62)).setCell ⟨gb708, 1, none⟩ (.slice Ao64 t704.length co64)) w.heap.size (fun k_ => oN k_ Ao12 t672 co12 ∧ oN k_ Ao14 t675 co14 ∧ some k_ ≠ (v682 : Value).ownBlock ∧ oN k_ Ao45 t685 co45 ∧ oN k_ Ao48 t688 co48 ∧ oN k_ Ao56 t696 co56 ∧ oN k_ Ao62 t701 co62 ∧ oN k_ Ao64 t704 co64) (.slice Ao52 t693.length co52) t693) := ⟨by (with_reducible repeat (first | apply Kd.R_alloc | apply Kd.R_drewN | apply Kd.R_drew)); exact Kd.R_mono (Kd.R_far (p := ⟨gb708, 1, none⟩) (Kd.R_far (p := ⟨gb708, 0, none⟩) (Kd.R_types HO695.out BK708.out (by decide)) (fun _ hk => hk.2) (.slice Ao62 t701.length co62)) (fun _ hk => hk.2) (.slice Ao64 t704.length co64)) (fun _ hk => ⟨hk.1.2.2.2.2.2.2.1, ⟨hk.1.2.2.2.2.2.2.2, ⟨hk.1.1, ⟨hk.1.2.1, ⟨hk.1.2.2.1, ⟨hk.1.2.2.2.1, ⟨hk.1.2.2.2.2.1, hk.1.2.2.2.2.2.1⟩⟩⟩⟩⟩⟩⟩)⟩
                    have n6_ : Aside0 (Kd.R (Kd.int .i64) 3 ((w61.setCell ⟨gb708, 0, none⟩ (.slice Ao62 t701.length co62)).setCell ⟨gb708, 1, none⟩ (.slice Ao64 t704.length co64)) w.heap.size (fun k_ => oN k_ Ao12 t672 co12 ∧ oN k_ Ao14 t675 co14 ∧ some k_ ≠ (v682 : Value).ownBlock ∧ oN k_ Ao45 t685 co45 ∧ oN k_ Ao48 t688 co48 ∧ oN k_ Ao52 t693 co52 ∧ oN k_ Ao62 t701 co62 ∧ oN k_ Ao64 t704 co64) (.slice Ao56 t696.length co56) t696) := ⟨by (with_reducible repeat (first | apply Kd.R_alloc | apply Kd.R_drewN | apply Kd.R_drew)); exact Kd.R_mono (Kd.R_far (p := ⟨gb708, 1, none⟩) (Kd.R_far (p := ⟨gb708, 0, none⟩) (Kd.R_types HO698.out BK708.out (by decide)) (fun _ hk => hk.2) (.slice Ao62 t701.length co62)) (fun _ hk => hk.2) (.slice Ao64 t704.length co64)) (fun _ hk => ⟨hk.1.2.2.2.2.2.2.1, ⟨hk.1.2.2.2.2.2.2.2, ⟨hk.1.1, ⟨hk.1.2.1, ⟨hk.1.2.2.1, ⟨hk.1.2.2.2.1, ⟨hk.1.2.2.2.2.1, hk.1.2.2.2.2.2.1⟩⟩⟩⟩⟩⟩⟩)⟩
                    have n7_ : Aside0 (Kd.R (Kd.int .i64) 3 ((w61.setCell ⟨gb708, 0, none⟩ (.slice Ao62 t701.length co62)).setCell ⟨gb708, 1, none⟩ (.slice Ao64 t704.length co64)) w.heap.size (fun k_ => oN k_ Ao12 t672 co12 ∧ oN k_ Ao14 t675 co14 ∧ some k_ ≠ (v682 : Value).ownBlock ∧ oN k_ Ao45 t685 co45 ∧ oN k_ Ao48 t688 co48 ∧ oN k_ Ao52 t693 co52 ∧ oN k_ Ao56 t696 co56 ∧ oN k_ Ao64 t704 co64) (.slice Ao62 t701.length co62) t701) := ⟨by (with_reducible repeat (first | apply Kd.R_alloc | apply Kd.R_drewN | apply Kd.R_drew)); exact Kd.R_mono (Kd.R_far (p := ⟨gb708, 1, none⟩) (Kd.R_far (p := ⟨gb708, 0, none⟩) (Kd.R_types HO703.out BK708.out (by decide)) (fun _ hk => hk.2) (.slice Ao62 t701.length co62)) (fun _ hk => hk.2) (.slice Ao64 t704.length co64)) (fun _ hk => ⟨hk.1.2.2.2.2.2.2.1, ⟨hk.1.2.2.2.2.2.2.2, ⟨hk.1.1, ⟨hk.1.2.1, ⟨hk.1.2.2.1, ⟨hk.1.2.2.2.1, ⟨hk.1.2.2.2.2.1, hk.1.2.2.2.2.2.1⟩⟩⟩⟩⟩⟩⟩)⟩
                    have n8_ : Aside0 (Kd.R (Kd.int .i64) 3 ((w61.setCell ⟨gb708, 0, none⟩ (.slice Ao62 t701.length co62)).setCell ⟨gb708, 1, none⟩ (.slice Ao64 t704.length co64)) w.heap.size (fun k_ => oN k_ Ao12 t672 co12 ∧ oN k_ Ao14 t675 co14 ∧ some k_ ≠ (v682 : Value).ownBlock ∧ oN k_ Ao45 t685 co45 ∧ oN k_ Ao48 t688 co48 ∧ oN k_ Ao52 t693 co52 ∧ oN k_ Ao56 t696 co56 ∧ oN k_ Ao62 t701 co62) (.slice Ao64 t704.length co64) t704) := ⟨by (with_reducible repeat (first | apply Kd.R_alloc | apply Kd.R_drewN | apply Kd.R_drew)); exact Kd.R_mono (Kd.R_far (p := ⟨gb708, 1, none⟩) (Kd.R_far (p := ⟨gb708, 0, none⟩) (Kd.R_types HO706.out BK708.out (by decide)) (fun _ hk => hk.2) (.slice Ao62 t701.length co62)) (fun _ hk => hk.2) (.slice Ao64 t704.length co64)) (fun _ hk => ⟨hk.1.2.2.2.2.2.2.1, ⟨hk.1.2.2.2.2.2.2.2, ⟨hk.1.1, ⟨hk.1.2.1, ⟨hk.1.2.2.1, ⟨hk.1.2.2.2.1, ⟨hk.1.2.2.2.2.1, hk.1.2.2.2.2.2.1⟩⟩⟩⟩⟩⟩⟩)⟩
                    have n9_ : Aside0 (((w61.setCell ⟨gb708, 0, none⟩ (.slice Ao62 t701.length co62)).setCell ⟨gb708, 1, none⟩ (.slice Ao64 t704.length co64)).heap[gb678]? = some (.cells #[.slice Ao12 t672.length co12, .slice Ao14 t675.length co14] 25 (0, 0))) := ⟨kF BK678⟩
                    have n10_ : Aside0 (((w61.setCell ⟨gb708, 0, none⟩ (.slice Ao62 t701.length co62)).setCell ⟨gb708, 1, none⟩ (.slice Ao64 t704.length co64)).heap[gb692]? = some (.cells #[.slice Ao45 t685.length co45, .slice Ao48 t688.length co48] 25 (0, 0))) := ⟨kF BK692⟩
                    have n11_ : Aside0 (((w61.setCell ⟨gb708, 0, none⟩ (.slice Ao62 t701.length co62)).setCell ⟨gb708, 1, none⟩ (.slice Ao64 t704.length co64)).heap[gb700]? = some (.cells #[.slice Ao52 t693.length co52, .slice Ao56 t696.length co56] 25 (0, 0))) := ⟨kF BK700⟩
                    have n12_ : Aside0 (((w61.setCell ⟨gb708, 0, none⟩ (.slice Ao62 t701.length co62)).setCell ⟨gb708, 1, none⟩ (.slice Ao64 t704.length co64)).heap[gb708]? = some (.cells #[.slice Ao62 t701.length co62, .slice Ao64 t704.length co64] 25 (0, 0))) := ⟨by (with_reducible repeat (first | refine blk_drewN ?_ _ | refine blk_drew ?_ | refine blk_alloc ?_ _)); refine blk_put (cs := #[.slice Ao62 t701.length co62, .slice none 0 0]) ?_ 1 _ rfl; (with_reducible repeat (first | refine blk_drewN ?_ _ | refine blk_drew ?_ | refine blk_alloc ?_ _)); refine blk_put (cs := #[.slice none 0 0, .slice none 0 0]) ?_ 0 _ rfl; (with_reducible repeat (first | refine blk_drewN ?_ _ | refine blk_drew ?_ | refine blk_alloc ?_ _)); exact BK708.out⟩
                    have n13_ : Aside0 (Below w.heap.size w ((w61.setCell ⟨gb708, 0, none⟩ (.slice Ao62 t701.length co62)).setCell ⟨gb708, 1, none⟩ (.slice Ao64 t704.length co64))) := ⟨bP HB⟩
                    (try clear HO_679000)
                    (try clear HO_679001)
                    (try clear HO683)
                    (try clear HO687)
                    (try clear HO690)
                    (try clear HO695)
                    (try clear HO698)
                    (try clear HO703)
                    (try clear HO706)
                    (try clear BK678)
                    (try clear BK692)
                    (try clear BK700)
                    (try clear BK708)
                    (try clear HB)
                    generalize ((w61.setCell ⟨gb708, 0, none⟩ (.slice Ao62 t701.length co62)).setCell ⟨gb708, 1, none⟩ (.slice Ao64 t704.length co64)) = w66 at n0_ n1_ n2_ n3_ n4_ n5_ n6_ n7_ n8_ n9_ n10_ n11_ n12_ n13_ ⊢
                    have HO_679000 := n0_
                    have HO_679001 := n1_
                    have HO683 := n2_
                    have HO687 := n3_
                    have HO690 := n4_
                    have HO695 := n5_
                    have HO698 := n6_
                    have HO703 := n7_
                    have HO706 := n8_
                    have BK678 := n9_
                    have BK692 := n10_
                    have BK700 := n11_
                    have BK708 := n12_
                    have HB := n13_
                    clear n0_ n1_ n2_ n3_ n4_ n5_ n6_ n7_ n8_ n9_ n10_ n11_ n12_ n13_
                    have n0_ := Aside0.mk (Kd.Q_drew HO_679000.out)
                    have n1_ := Aside0.mk (Kd.R_drew HO_679001.out)
                    have n2_ := Aside0.mk (Kd.R_drew HO683.out)
                    have n3_ := Aside0.mk (Kd.R_drew HO687.out)
                    have n4_ := Aside0.mk (Kd.R_drew HO690.out)
                    have n5_ := Aside0.mk (Kd.R_drew HO695.out)
                    have n6_ := Aside0.mk (Kd.R_drew HO698.out)
                    have n7_ := Aside0.mk (Kd.R_drew HO703.out)
                    have n8_ := Aside0.mk (Kd.R_drew HO706.out)
                    have n9_ := Aside0.mk (blk_drew BK678.out)
                    have n10_ := Aside0.mk (blk_drew BK692.out)
                    have n11_ := Aside0.mk (blk_drew BK700.out)
                    have n12_ := Aside0.mk (blk_drew BK708.out)
                    have n13_ := Aside0.mk (below_drew1 HB.out)
                    clear HO_679000
                    clear HO_679001
                    clear HO683
                    clear HO687
                    clear HO690
                    clear HO695
                    clear HO698
                    clear HO703
                    clear HO706
                    clear BK678
                    clear BK692
                    clear BK700
                    clear BK708
                    clear HB
                    have HO_679000 := n0_
                    have HO_679001 := n1_
                    have HO683 := n2_
                    have HO687 := n3_
                    have HO690 := n4_
                    have HO695 := n5_
                    have HO698 := n6_
                    have HO703 := n7_
                    have HO706 := n8_
                    have BK678 := n9_
                    have BK692 := n10_
                    have BK700 := n11_
                    have BK708 := n12_
                    have HB := n13_
                    clear n0_ n1_ n2_ n3_ n4_ n5_ n6_ n7_ n8_ n9_ n10_ n11_ n12_ n13_
                    obtain ⟨Ao68, co68, eo68⟩ := Kd.R_slice HO683.out
                    (first | subst eo68 | (injection eo68 with f1_ f2_ f3_; have f4_ := f1_.symm; have f5_ := f3_.symm; clear f1_ f2_ f3_; subst f4_; subst f5_))
                    have p709 : 0 ≤ (0 : Int) := (by omega)
                    have q709 : 0 < (t681.length : Int) := dT
                    obtain ⟨ad709, e709, hx709_0⟩ := Kd.at_int (Kd.R_reads' HO683.out).2.2 0 p709 q709
                    cases e709
                    have qi709 : (0 < t681.length) = True := eq_true (by omega)
                    (try rw [show ((0 : Int)).toNat = 0 from rfl] at hx709_0)
                    (try rw [Addr.add_zero'] at hx709_0)
                    replace p709 := eq_true p709
                    replace q709 := eq_true q709
                    have p710 : 0 ≤ (1 : Int) := (by omega)
                    have q710 : 1 < (t681.length : Int) := dT
                    obtain ⟨ad710, e710, hx710_0⟩ := Kd.at_int (Kd.R_reads' HO683.out).2.2 1 p710 q710
                    obtain rfl : ad709 = ad710 := (by injection e710)
                    (try simp only [show (1 : Int).toNat = 1 from rfl, Nat.reduceMul, Nat.reduceEqDiff, Go.Addr.add, ↓reduceIte] at hx710_0)
                    have qi710 : (1 < t681.length) = True := eq_true (by omega)
                    (try rw [show ((1 : Int)).toNat = 1 from rfl] at hx710_0)
                    replace p710 := eq_true p710
                    replace q710 := eq_true q710
                    have p711 : 0 ≤ (2 : Int) := (by omega)
                    have q711 : 2 < (t681.length : Int) := dT
                    obtain ⟨ad711, e711, hx711_0⟩ := Kd.at_int (Kd.R_reads' HO683.out).2.2 2 p711 q711
                    obtain rfl : ad709 = ad711 := (by injection e711)
                    (try simp only [show (2 : Int).toNat = 2 from rfl, Nat.reduceMul, Nat.reduceEqDiff, Go.Addr.add, ↓reduceIte] at hx711_0)
                    have qi711 : (2 < t681.length) = True := eq_true (by omega)
                    (try rw [show ((2 : Int)).toNat = 2 from rfl] at hx711_0)
                    replace p711 := eq_true p711
                    replace q711 := eq_true q711
                    have p712 : 0 ≤ (1 : Int) := (by omega)
                    have q712 : 1 < (t681.length : Int) := dT
                    obtain ⟨ad712, e712, hx712_0⟩ := Kd.at_int (Kd.R_reads' HO683.out).2.2 1 p712 q712
                    obtain rfl : ad709 = ad712 := (by injection e712)
                    (try simp only [show (1 : Int).toNat = 1 from rfl, Nat.reduceMul, Nat.reduceEqDiff, Go.Addr.add, ↓reduceIte] at hx712_0)
                    have qi712 : (1 < t681.length) = True := eq_true (by omega)
                    (try rw [show ((1 : Int)).toNat = 1 from rfl] at hx712_0)
                    replace p712 := eq_true p712
                    replace q712 := eq_true q712
                    refine start_ (n := 58) (S := fun w' => w'.cell? ⟨gb692, 0, none⟩ = some (.slice Ao45 t685.length co45) ∧ w'.cell? ⟨gb692, 1, none⟩ = some (.slice Ao48 t688.length co48) ∧ w'.cell? ⟨gb700, 0, none⟩ = some (.slice Ao52 t693.length co52) ∧ w'.cell? ⟨gb700, 1, none⟩ = some (.slice Ao56 t696.length co56) ∧ w'.cell? ⟨gb708, 0, none⟩ = some (.slice Ao62 t701.length co62) ∧ w'.cell? ⟨gb708, 1, none⟩ = some (.slice Ao64 t704.length co64) ∧ w'.cell? ad709 = some (.int .i64 (rd t681 0)) ∧ w'.cell? ⟨ad709.block, ad709.off + 1, none⟩ = some (.int .i64 (rd t681 1)) ∧ w'.cell? ⟨ad709.block, ad709.off + 2, none⟩ = some (.int .i64 (rd t681 2)) ∧ w'.cell? ⟨ad709.block, ad709.off + 1, none⟩ = some (.int .i64 (rd t681 1))) (ds := []) #[false, false, false, false, false, false, false, false, false, false, false, false, false, false, false, false, false, false, false, false, false, false, false, false, false, false, false, false, false, false, false, false, false, false, false, false, false, false, false, false, false, false, false, false, false, false, false, false, false, false, false, false, false, false, false, false, false, false] (by kernel_rfl) rfl rfl ⟨(blk_cell BK692.out 0).trans rfl, (blk_cell BK692.out 1).trans rfl, (blk_cell BK700.out 0).trans rfl, (blk_cell BK700.out 1).trans rfl, (blk_cell BK708.out 0).trans rfl, (blk_cell BK708.out 1).trans rfl, hx709_0, hx710_0, hx711_0, hx712_0⟩ (fun hHeld => ?_); refine with_tabW laws_FnGenus.tab12 laws_FnGenus.bits12 (fun HT_ HW_ => ?_)
                    generalize w66.drew = w67 at HO_679000 HO_679001 HO683 HO687 HO690 HO695 HO698 HO703 HO706 BK678 BK692 BK700 BK708 HB hx709_0 hx710_0 hx711_0 hx712_0 hHeld ⊢
                    refine pure_ (i := 0) (N := some 66) (v := ?_) (a' := ?_) #[true, false, false, false, false, false, false, false, false, false, false, false, false, false, false, false, false, false, false, false, false, false, false, false, false, false, false, false, false, false, false, false, false, false, false, false, false, false, false, false, false, false, false, false, false, false, false, false, false, false, false, false, false, false, false, false, false, false] rfl rfl (any_of HT_.out (by kernel_rfl)) (fun _ _ _ h => h) (Or.inl ⟨by rfl, ?_⟩) ?_ ?_
                    rotate_left
                    ·intro w'
                     go_simp
                     with_reducible rfl
                    rotate_left
                    ·simp only [Act.put, List.setIfInBounds_toArray, List.set_cons_zero, List.set_cons_succ, i64_w, i32_w]
                     rfl
                    refine pure_ (i := 1) (N := some 67) (v := ?_) (a' := ?_) #[true, true, false, false, false, false, false, false, false, false, false, false, false, false, false, false, false, false, false, false, false, false, false, false, false, false, false, false, false, false, false, false, false, false, false, false, false, false, false, false, false, false, false, false, false, false, false, false, false, false, false, false, false, false, false, false, false, false] rfl rfl (any_of HT_.out (by kernel_rfl)) (fun _ _ _ h => h) (Or.inl ⟨by rfl, ?_⟩) ?_ ?_
                    rotate_left
                    ·intro w'
                     go_simp
                     with_reducible rfl
                    rotate_left
                    ·simp only [Act.put, List.setIfInBounds_toArray, List.set_cons_zero, List.set_cons_succ, i64_w, i32_w]
                     rfl
                    refine pure_ (i := 2) (N := some 68) (v := ?_) (a' := ?_) #[true, true, true, false, false, false, false, false, false, false, false, false, false, false, false, false, false, false, false, false, false, false, false, false, false, false, false, false, false, false, false, false, false, false, false, false, false, false, false, false, false, false, false, false, false, false, false, false, false, false, false, false, false, false, false, false, false, false] rfl rfl (any_of HT_.out (by kernel_rfl)) (fun _ _ _ h => h) (Or.inl ⟨by rfl, ?_⟩) ?_ ?_
                    rotate_left
                    ·intro w'
                     go_simp
                     with_reducible rfl
                    rotate_left
                    ·simp only [Act.put, List.setIfInBounds_toArray, List.set_cons_zero, List.set_cons_succ, i64_w, i32_w]
                     rfl
                    refine pure_ (i := 3) (N := some 69) (v := ?_) (a' := ?_) #[true, true, true, true, false, false, false, false, false, false, false, false, false, false, false, false, false, false, false, false, false, false, false, false, false, false, false, false, false, false, false, false, false, false, false, false, false, false, false, false, false, false, false, false, false, false, false, false, false, false, false, false, false, false, false, false, false, false] rfl rfl (any_of HT_.out (by kernel_rfl)) (fun _ _ _ h => h) (Or.inl ⟨by rfl, ?_⟩) ?_ ?_
                    rotate_left
                    ·intro w'
                     go_simp
                     with_reducible rfl
                    rotate_left
                    ·simp only [Act.put, List.setIfInBounds_toArray, List.set_cons_zero, List.set_cons_succ, i64_w, i32_w]
                     rfl
                    refine pure_ (i := 4) (N := some 70) (v := ?_) (a' := ?_) #[true, true, true, true, true, false, false, false, false, false, false, false, false, false, false, false, false, false, false, false, false, false, false, false, false, false, false, false, false, false, false, false, false, false, false, false, false, false, false, false, false, false, false, false, false, false, false, false, false, false, false, false, false, false, false, false, false, false] rfl rfl (any_of HT_.out (by kernel_rfl)) (fun _ _ _ h => h) (Or.inl ⟨by rfl, ?_⟩) ?_ ?_
                    rotate_left
                    ·intro w'
                     go_simp
                     with_reducible rfl
                    rotate_left
                    ·simp only [Act.put, List.setIfInBounds_toArray, List.set_cons_zero, List.set_cons_succ, i64_w, i32_w]
                     rfl
                    refine pure_ (i := 5) (N := some 71) (v := ?_) (a' := ?_) #[true, true, true, true, true, true, false, false, false, false, false, false, false, false, false, false, false, false, false, false, false, false, false, false, false, false, false, false, false, false, false, false, false, false, false, false, false, false, false, false, false, false, false, false, false, false, false, false, false, false, false, false, false, false, false, false, false, false] rfl rfl (any_of HT_.out (by kernel_rfl)) (fun _ _ _ h => h) (Or.inl ⟨by rfl, ?_⟩) ?_ ?_
                    rotate_left
                    ·intro w'
                     go_simp
                     with_reducible rfl
                    rotate_left
                    ·simp only [Act.put, List.setIfInBounds_toArray, List.set_cons_zero, List.set_cons_succ, i64_w, i32_w]
                     rfl
                    refine pure_ (i := 6) (N := some 72) (v := ?_) (a' := ?_) #[true, true, true, true, true, true, true, false, false, false, false, false, false, false, false, false, false, false, false, false, false, false, false, false, false, false, false, false, false, false, false, false, false, false, false, false, false, false, false, false, false, false, false, false, false, false, false, false, false, false, false, false, false, false, false, false, false, false] rfl rfl (any_of HT_.out (by kernel_rfl)) (fun _ _ _ h => h) (Or.inl ⟨by rfl, ?_⟩) ?_ ?_
                    rotate_left
                    ·intro w'
                     go_simp
                     with_reducible rfl
                    rotate_left
                    ·simp only [Act.put, List.setIfInBounds_toArray, List.set_cons_zero, List.set_cons_succ, i64_w, i32_w]
                     rfl
                    refine pure_ (i := 7) (N := some 73) (v := ?_) (a' := ?_) #[true, true, true, true, true, true, true, true, false, false, false, false, false, false, false, false, false, false, false, false, false, false, false, false, false, false, false, false, false, false, false, false, false, false, false, false, false, false, false, false, false, false, false, false, false, false, false, false, false, false, false, false, false, false, false, false, false, false] rfl rfl (any_of HT_.out (by kernel_rfl)) (fun _ _ _ h => h) (Or.inl ⟨by rfl, ?_⟩) ?_ ?_
                    rotate_left
                    ·intro w'
                     go_simp
                     with_reducible rfl
                    rotate_left
                    ·simp only [Act.put, List.setIfInBounds_toArray, List.set_cons_zero, List.set_cons_succ, i64_w, i32_w]
                     rfl
                    refine pure_ (i := 8) (N := some 74) (v := ?_) (a' := ?_) #[true, true, true, true, true, true, true, true, true, false, false, false, false, false, false, false, false, false, false, false, false, false, false, false, false, false, false, false, false, false, false, false, false, false, false, false, false, false, false, false, false, false, false, false, false, false, false, false, false, false, false, false, false, false, false, false, false, false] rfl rfl (any_of HT_.out (by kernel_rfl)) (fun _ _ _ h => h) (Or.inl ⟨by rfl, ?_⟩) ?_ ?_
                    rotate_left
                    ·intro w'
                     go_simp
                     with_reducible rfl
                    rotate_left
                    ·simp only [Act.put, List.setIfInBounds_toArray, List.set_cons_zero, List.set_cons_succ, i64_w, i32_w]
                     rfl
                    refine pure_ (i := 9) (N := some 75) (v := ?_) (a' := ?_) #[true, true, true, true, true, true, true, true, true, true, false, false, false, false, false, false, false, false, false, false, false, false, false, false, false, false, false, false, false, false, false, false, false, false, false, false, false, false, false, false, false, false, false, false, false, false, false, false, false, false, false, false, false, false, false, false, false, false] rfl rfl (any_of HT_.out (by kernel_rfl)) (fun _ _ _ h => h) (Or.inl ⟨by rfl, ?_⟩) ?_ ?_
                    rotate_left
                    ·intro w'
                     go_simp
                     with_reducible rfl
                    rotate_left
                    ·simp only [Act.put, List.setIfInBounds_toArray, List.set_cons_zero, List.set_cons_succ, i64_w, i32_w]
                     rfl
                    refine pure_ (i := 10) (N := some 76) (v := ?_) (a' := ?_) #[true, true, true, true, true, true, true, true, true, true, true, false, false, false, false, false, false, false, false, false, false, false, false, false, false, false, false, false, false, false, false, false, false, false, false, false, false, false, false, false, false, false, false, false, false, false, false, false, false, false, false, false, false, false, false, false, false, false] rfl rfl (any_of HT_.out (by kernel_rfl)) (fun _ _ _ h => h) (Or.inl ⟨by rfl, ?_⟩) ?_ ?_
                    rotate_left
                    ·intro w'
                     go_simp
                     with_reducible rfl
                    rotate_left
                    ·simp only [Act.put, List.setIfInBounds_toArray, List.set_cons_zero, List.set_cons_succ, i64_w, i32_w]
                     rfl
                    refine pure_ (i := 11) (N := some 77) (v := ?_) (a' := ?_) #[true, true, true, true, true, true, true, true, true, true, true, true, false, false, false, false, false, false, false, false, false, false, false, false, false, false, false, false, false, false, false, false, false, false, false, false, false, false, false, false, false, false, false, false, false, false, false, false, false, false, false, false, false, false, false, false, false, false] rfl rfl (any_of HT_.out (by kernel_rfl)) (fun _ _ _ h => h) (Or.inl ⟨by rfl, ?_⟩) ?_ ?_
                    rotate_left
                    ·intro w'
                     go_simp
                     with_reducible rfl
                    rotate_left
                    ·simp only [Act.put, List.setIfInBounds_toArray, List.set_cons_zero, List.set_cons_succ, i64_w, i32_w]
                     rfl
                    refine pure_ (i := 12) (N := some 78) (v := ?_) (a' := ?_) #[true, true, true, true, true, true, true, true, true, true, true, true, true, false, false, false, false, false, false, false, false, false, false, false, false, false, false, false, false, false, false, false, false, false, false, false, false, false, false, false, false, false, false, false, false, false, false, false, false, false, false, false, false, false, false, false, false, false] rfl rfl (any_of HT_.out (by kernel_rfl)) (fun _ _ _ h => h) (Or.inl ⟨by rfl, ?_⟩) ?_ ?_
                    rotate_left
                    ·intro w'
                     go_simp
                     with_reducible rfl
                    rotate_left
                    ·simp only [Act.put, List.setIfInBounds_toArray, List.set_cons_zero, List.set_cons_succ, i64_w, i32_w]
                     rfl
                    refine pure_ (i := 14) (N := some 80) (v := ?_) (a' := ?_) #[true, true, true, true, true, true, true, true, true, true, true, true, true, false, true, false, false, false, false, false, false, false, false, false, false, false, false, false, false, false, false, false, false, false, false, false, false, false, false, false, false, false, false, false, false, false, false, false, false, false, false, false, false, false, false, false, false, false] rfl rfl (any_of HT_.out (by kernel_rfl)) (fun _ _ _ h => h) (Or.inl ⟨by rfl, ?_⟩) ?_ ?_
                    rotate_left
                    ·intro w'
                     go_simp
                     with_reducible rfl
                    rotate_left
                    ·simp only [Act.put, List.setIfInBounds_toArray, List.set_cons_zero, List.set_cons_succ, i64_w, i32_w]
                     rfl
                    refine pure_ (i := 15) (N := some 81) (v := ?_) (a' := ?_) #[true, true, true, true, true, true, true, true, true, true, true, true, true, false, true, true, false, false, false, false, false, false, false, false, false, false, false, false, false, false, false, false, false, false, false, false, false, false, false, false, false, false, false, false, false, false, false, false, false, false, false, false, false, false, false, false, false, false] rfl rfl (any_of HT_.out (by kernel_rfl)) (fun _ _ _ h => h) (Or.inl ⟨by rfl, ?_⟩) ?_ ?_
                    rotate_left
                    ·intro w'
                     go_simp
                     with_reducible rfl
                    rotate_left
                    ·simp only [Act.put, List.setIfInBounds_toArray, List.set_cons_zero, List.set_cons_succ, i64_w, i32_w]
                     rfl
                    refine pure_ (i := 18) (N := some 84) (v := ?_) (a' := ?_) #[true, true, true, true, true, true, true, true, true, true, true, true, true, false, true, true, false, false, true, false, false, false, false, false, false, false, false, false, false, false, false, false, false, false, false, false, false, false, false, false, false, false, false, false, false, false, false, false, false, false, false, false, false, false, false, false, false, false] rfl rfl (any_of HT_.out (by kernel_rfl)) (fun _ _ _ h => h) (Or.inl ⟨by rfl, ?_⟩) ?_ ?_
                    rotate_left
                    ·intro w'
                     go_simp
                     with_reducible rfl
                    rotate_left
                    ·simp only [Act.put, List.setIfInBounds_toArray, List.set_cons_zero, List.set_cons_succ, i64_w, i32_w]
                     rfl
                    refine pure_ (i := 19) (N := some 85) (v := ?_) (a' := ?_) #[true, true, true, true, true, true, true, true, true, true, true, true, true, false, true, true, false, false, true, true, false, false, false, false, false, false, false, false, false, false, false, false, false, false, false, false, false, false, false, false, false, false, false, false, false, false, false, false, false, false, false, false, false, false, false, false, false, false] rfl rfl (any_of HT_.out (by kernel_rfl)) (fun _ _ _ h => h) (Or.inl ⟨by rfl, ?_⟩) ?_ ?_
                    rotate_left
                    ·intro w'
                     go_simp
                     with_reducible rfl
                    rotate_left
                    ·simp only [Act.put, List.setIfInBounds_toArray, List.set_cons_zero, List.set_cons_succ, i64_w, i32_w]
                     rfl
                    refine pure_ (i := 22) (N := some 88) (v := ?_) (a' := ?_) #[true, true, true, true, true, true, true, true, true, true, true, true, true, false, true, true, false, false, true, true, false, false, true, false, false, false, false, false, false, false, false, false, false, false, false, false, false, false, false, false, false, false, false, false, false, false, false, false, false, false, false, false, false, false, false, false, false, false] rfl rfl (any_of HT_.out (by kernel_rfl)) (fun _ _ _ h => h) (Or.inl ⟨by rfl, ?_⟩) ?_ ?_
                    rotate_left
                    ·intro w'
                     go_simp
                     with_reducible rfl
                    rotate_left
                    ·simp only [Act.put, List.setIfInBounds_toArray, List.set_cons_zero, List.set_cons_succ, i64_w, i32_w]
                     rfl
                    refine pure_ (i := 23) (N := some 89) (v := ?_) (a' := ?_) #[true, true, true, true, true, true, true, true, true, true, true, true, true, false, true, true, false, false, true, true, false, false, true, true, false, false, false, false, false, false, false, false, false, false, false, false, false, false, false, false, false, false, false, false, false, false, false, false, false, false, false, false, false, false, false, false, false, false] rfl rfl (any_of HT_.out (by kernel_rfl)) (fun _ _ _ h => h) (Or.inl ⟨by rfl, ?_⟩) ?_ ?_
                    rotate_left
                    ·intro w'
                     go_simp
                     with_reducible rfl
                    rotate_left
                    ·simp only [Act.put, List.setIfInBounds_toArray, List.set_cons_zero, List.set_cons_succ, i64_w, i32_w]
                     rfl
                    refine pure_ (i := 24) (N := some 90) (v := ?_) (a' := ?_) #[true, true, true, true, true, true, true, true, true, true, true, true, true, false, true, true, false, false, true, true, false, false, true, true, true, false, false, false, false, false, false, false, false, false, false, false, false, false, false, false, false, false, false, false, false, false, false, false, false, false, false, false, false, false, false, false, false, false] rfl rfl (any_of HT_.out (by kernel_rfl)) (fun _ _ _ h => h) (Or.inl ⟨by rfl, ?_⟩) ?_ ?_
                    rotate_left
                    ·intro w'
                     go_simp
                     with_reducible rfl
                    rotate_left
                    ·simp only [Act.put, List.setIfInBounds_toArray, List.set_cons_zero, List.set_cons_succ, i64_w, i32_w]
                     rfl
                    refine take_ (i := 13) (N := some 79) (v := ?_) (a' := ?_) #[true, true, true, true, true, true, true, true, true, true, true, true, true, true, true, true, false, false, true, true, false, false, true, true, true, false, false, false, false, false, false, false, false, false, false, false, false, false, false, false, false, false, false, false, false, false, false, false, false, false, false, false, false, false, false, false, false, false] rfl rfl (take_ofW HT_.out HW_.out (by kernel_rfl)) (fun _ _ _ h => h) (Or.inl ⟨by rfl, ?_⟩) hHeld ?_ ?_
                    rotate_left
                    ·rintro w' ⟨s0, s1, s2, s3, s4, s5, s6, s7, s8, s9⟩
                     go_simp
                     with_reducible rfl
                    rotate_left
                    ·simp only [Act.put, List.setIfInBounds_toArray, List.set_cons_zero, List.set_cons_succ, i64_w, i32_w]
                     rfl
                    refine take_ (i := 16) (N := some 82) (v := ?_) (a' := ?_) #[true, true, true, true, true, true, true, true, true, true, true, true, true, true, true, true, true, false, true, true, false, false, true, true, true, false, false, false, false, false, false, false, false, false, false, false, false, false, false, false, false, false, false, false, false, false, false, false, false, false, false, false, false, false, false, false, false, false] rfl rfl (take_ofW HT_.out HW_.out (by kernel_rfl)) (fun _ _ _ h => h) (Or.inl ⟨by rfl, ?_⟩) hHeld ?_ ?_
                    rotate_left
                    ·rintro w' ⟨s0, s1, s2, s3, s4, s5, s6, s7, s8, s9⟩
                     go_simp
                     with_reducible rfl
                    rotate_left
                    ·simp only [Act.put, List.setIfInBounds_toArray, List.set_cons_zero, List.set_cons_succ, i64_w, i32_w]
                     rfl
                    refine pure_ (i := 17) (N := some 83) (v := ?_) (a' := ?_) #[true, true, true, true, true, true, true, true, true, true, true, true, true, true, true, true, true, true, true, true, false, false, true, true, true, false, false, false, false, false, false, false, false, false, false, false, false, false, false, false, false, false, false, false, false, false, false, false, false, false, false, false, false, false, false, false, false, false] rfl rfl (any_of HT_.out (by kernel_rfl)) (fun _ _ _ h => h) (Or.inl ⟨by rfl, ?_⟩) ?_ ?_
                    rotate_left
                    ·intro w'
                     go_simp
                     with_reducible rfl
                    rotate_left
                    ·simp only [Act.put, List.setIfInBounds_toArray, List.set_cons_zero, List.set_cons_succ, i64_w, i32_w]
                     rfl
                    refine take_ (i := 20) (N := some 86) (v := ?_) (a' := ?_) #[true, true, true, true, true, true, true, true, true, true, true, true, true, true, true, true, true, true, true, true, true, false, true, true, true, false, false, false, false, false, false, false, false, false, false, false, false, false, false, false, false, false, false, false, false, false, false, false, false, false, false, false, false, false, false, false, false, false] rfl rfl (take_ofW HT_.out HW_.out (by kernel_rfl)) (fun _ _ _ h => h) (Or.inl ⟨by rfl, ?_⟩) hHeld ?_ ?_
                    rotate_left
                    ·rintro w' ⟨s0, s1, s2, s3, s4, s5, s6, s7, s8, s9⟩
                     go_simp
                     with_reducible rfl
                    rotate_left
                    ·simp only [Act.put, List.setIfInBounds_toArray, List.set_cons_zero, List.set_cons_succ, i64_w, i32_w]
                     rfl
                    refine pure_ (i := 21) (N := some 87) (v := ?_) (a' := ?_) #[true, true, true, true, true, true, true, true, true, true, true, true, true, true, true, true, true, true, true, true, true, true, true, true, true, false, false, false, false, false, false, false, false, false, false, false, false, false, false, false, false, false, false, false, false, false, false, false, false, false, false, false, false, false, false, false, false, false] rfl rfl (any_of HT_.out (by kernel_rfl)) (fun _ _ _ h => h) (Or.inl ⟨by rfl, ?_⟩) ?_ ?_
                    rotate_left
                    ·intro w'
                     go_simp
                     with_reducible rfl
                    rotate_left
                    ·simp only [Act.put, List.setIfInBounds_toArray, List.set_cons_zero, List.set_cons_succ, i64_w, i32_w]
                     rfl
                    refine pure_ (i := 25) (N := some 91) (v := ?_) (a' := ?_) #[true, true, true, true, true, true, true, true, true, true, true, true, true, true, true, true, true, true, true, true, true, true, true, true, true, true, false, false, false, false, false, false, false, false, false, false, false, false, false, false, false, false, false, false, false, false, false, false, false, false, false, false, false, false, false, false, false, false] rfl rfl (any_of HT_.out (by kernel_rfl)) (fun _ _ _ h => h) (Or.inl ⟨by rfl, ?_⟩) ?_ ?_
                    rotate_left
                    ·intro w'
                     go_simp
                     with_reducible rfl
                    rotate_left
                    ·simp only [Act.put, List.setIfInBounds_toArray, List.set_cons_zero, List.set_cons_succ, i64_w, i32_w]
                     rfl
                    refine pure_ (i := 26) (N := some 92) (v := ?_) (a' := ?_) #[true, true, true, true, true, true, true, true, true, true, true, true, true, true, true, true, true, true, true, true, true, true, true, true, true, true, true, false, false, false, false, false, false, false, false, false, false, false, false, false, false, false, false, false, false, false, false, false, false, false, false, false, false, false, false, false, false, false] rfl rfl (any_of HT_.out (by kernel_rfl)) (fun _ _ _ h => h) (Or.inl ⟨by rfl, ?_⟩) ?_ ?_
                    rotate_left
                    ·intro w'
                     go_simp
                     with_reducible rfl
                    rotate_left
                    ·simp only [Act.put, List.setIfInBounds_toArray, List.set_cons_zero, List.set_cons_succ, i64_w, i32_w]
                     rfl
                    refine pure_ (i := 27) (N := some 93) (v := ?_) (a' := ?_) #[true, true, true, true, true, true, true, true, true, true, true, true, true, true, true, true, true, true, true, true, true, true, true, true, true, true, true, true, false, false, false, false, false, false, false, false, false, false, false, false, false, false, false, false, false, false, false, false, false, false, false, false, false, false, false, false, false, false] rfl rfl (any_of HT_.out (by kernel_rfl)) (fun _ _ _ h => h) (Or.inl ⟨by rfl, ?_⟩) ?_ ?_
                    rotate_left
                    ·intro w'
                     go_simp
                     with_reducible rfl
                    rotate_left
                    ·simp only [Act.put, List.setIfInBounds_toArray, List.set_cons_zero, List.set_cons_succ, i64_w, i32_w]
                     rfl
                    refine pure_ (i := 28) (N := some 94) (v := ?_) (a' := ?_) #[true, true, true, true, true, true, true, true, true, true, true, true, true, true, true, true, true, true, true, true, true, true, true, true, true, true, true, true, true, false, false, false, false, false, false, false, false, false, false, false, false, false, false, false, false, false, false, false, false, false, false, false, false, false, false, false, false, false] rfl rfl (any_of HT_.out (by kernel_rfl)) (fun _ _ _ h => h) (Or.inl ⟨by rfl, ?_⟩) ?_ ?_
                    rotate_left
                    ·intro w'
                     go_simp
                     with_reducible rfl
                    rotate_left
                    ·simp only [Act.put, List.setIfInBounds_toArray, List.set_cons_zero, List.set_cons_succ, i64_w, i32_w]
                     rfl
                    refine pure_ (i := 29) (N := some 95) (v := ?_) (a' := ?_) #[true, true, true, true, true, true, true, true, true, true, true, true, true, true, true, true, true, true, true, true, true, true, true, true, true, true, true, true, true, true, false, false, false, false, false, false, false, false, false, false, false, false, false, false, false, false, false, false, false, false, false, false, false, false, false, false, false, false] rfl rfl (any_of HT_.out (by kernel_rfl)) (fun _ _ _ h => h) (Or.inl ⟨by rfl, ?_⟩) ?_ ?_
                    rotate_left
                    ·intro w'
                     go_simp
                     with_reducible rfl
                    rotate_left
                    ·simp only [Act.put, List.setIfInBounds_toArray, List.set_cons_zero, List.set_cons_succ, i64_w, i32_w]
                     rfl
                    refine pure_ (i := 30) (N := some 96) (v := ?_) (a' := ?_) #[true, true, true, true, true, true, true, true, true, true, true, true, true, true, true, true, true, true, true, true, true, true, true, true, true, true, true, true, true, true, true, false, false, false, false, false, false, false, false, false, false, false, false, false, false, false, false, false, false, false, false, false, false, false, false, false, false, false] rfl rfl (any_of HT_.out (by kernel_rfl)) (fun _ _ _ h => h) (Or.inl ⟨by rfl, ?_⟩) ?_ ?_
                    rotate_left
                    ·intro w'
                     go_simp
                     with_reducible rfl
                    rotate_left
                    ·simp only [Act.put, List.setIfInBounds_toArray, List.set_cons_zero, List.set_cons_succ, i64_w, i32_w]
                     rfl
                    refine pure_ (i := 31) (N := some 97) (v := ?_) (a' := ?_) #[true, true, true, true, true, true, true, true, true, true, true, true, true, true, true, true, true, true, true, true, true, true, true, true, true, true, true, true, true, true, true, true, false, false, false, false, false, false, false, false, false, false, false, false, false, false, false, false, false, false, false, false, false, false, false, false, false, false] rfl rfl (any_of HT_.out (by kernel_rfl)) (fun _ _ _ h => h) (Or.inl ⟨by rfl, ?_⟩) ?_ ?_
                    rotate_left
                    ·intro w'
                     go_simp
                     with_reducible rfl
                    rotate_left
                    ·simp only [Act.put, List.setIfInBounds_toArray, List.set_cons_zero, List.set_cons_succ, i64_w, i32_w]
                     rfl
                    refine pure_ (i := 32) (N := some 98) (v := ?_) (a' := ?_) #[true, true, true, true, true, true, true, true, true, true, true, true, true, true, true, true, true, true, true, true, true, true, true, true, true, true, true, true, true, true, true, true, true, false, false, false, false, false, false, false, false, false, false, false, false, false, false, false, false, false, false, false, false, false, false, false, false, false] rfl rfl (any_of HT_.out (by kernel_rfl)) (fun _ _ _ h => h) (Or.inl ⟨by rfl, ?_⟩) ?_ ?_
                    rotate_left
                    ·intro w'
                     go_simp
                     with_reducible rfl
                    rotate_left
                    ·simp only [Act.put, List.setIfInBounds_toArray, List.set_cons_zero, List.set_cons_succ, i64_w, i32_w]
                     rfl
                    refine pure_ (i := 33) (N := some 99) (v := ?_) (a' := ?_) #[true, true, true, true, true, true, true, true, true, true, true, true, true, true, true, true, true, true, true, true, true, true, true, true, true, true, true, true, true, true, true, true, true, true, false, false, false, false, false, false, false, false, false, false, false, false, false, false, false, false, false, false, false, false, false, false, false, false] rfl rfl (any_of HT_.out (by kernel_rfl)) (fun _ _ _ h => h) (Or.inl ⟨by rfl, ?_⟩) ?_ ?_
                    rotate_left
                    ·intro w'
                     go_simp
                     with_reducible rfl
                    rotate_left
                    ·simp only [Act.put, List.setIfInBounds_toArray, List.set_cons_zero, List.set_cons_succ, i64_w, i32_w]
                     rfl
                    refine pure_ (i := 34) (N := some 100) (v := ?_) (a' := ?_) #[true, true, true, true, true, true, true, true, true, true, true, true, true, true, true, true, true, true, true, true, true, true, true, true, true, true, true, true, true, true, true, true, true, true, true, false, false, false, false, false, false, false, false, false, false, false, false, false, false, false, false, false, false, false, false, false, false, false] rfl rfl (any_of HT_.out (by kernel_rfl)) (fun _ _ _ h => h) (Or.inl ⟨by rfl, ?_⟩) ?_ ?_
                    rotate_left
                    ·intro w'
                     go_simp
                     with_reducible rfl
                    rotate_left
                    ·simp only [Act.put, List.setIfInBounds_toArray, List.set_cons_zero, List.set_cons_succ, i64_w, i32_w]
                     rfl
                    refine pure_ (i := 35) (N := some 101) (v := ?_) (a' := ?_) #[true, true, true, true, true, true, true, true, true, true, true, true, true, true, true, true, true, true, true, true, true, true, true, true, true, true, true, true, true, true, true, true, true, true, true, true, false, false, false, false, false, false, false, false, false, false, false, false, false, false, false, false, false, false, false, false, false, false] rfl rfl (any_of HT_.out (by kernel_rfl)) (fun _ _ _ h => h) (Or.inl ⟨by rfl, ?_⟩) ?_ ?_
                    rotate_left
                    ·intro w'
                     go_simp
                     with_reducible rfl
                    rotate_left
                    ·simp only [Act.put, List.setIfInBounds_toArray, List.set_cons_zero, List.set_cons_succ, i64_w, i32_w]
                     rfl
                    refine take_ (i := 36) (N := some 102) (v := ?_) (a' := ?_) #[true, true, true, true, true, true, true, true, true, true, true, true, true, true, true, true, true, true, true, true, true, true, true, true, true, true, true, true, true, true, true, true, true, true, true, true, true, false, false, false, false, false, false, false, false, false, false, false, false, false, false, false, false, false, false, false, false, false] rfl rfl (take_ofW HT_.out HW_.out (by kernel_rfl)) (fun _ _ _ h => h) (Or.inl ⟨by rfl, ?_⟩) hHeld ?_ ?_
                    rotate_left
                    ·rintro w' ⟨s0, s1, s2, s3, s4, s5, s6, s7, s8, s9⟩
                     go_simp
                     with_reducible rfl
                    rotate_left
                    ·simp only [Act.put, List.setIfInBounds_toArray, List.set_cons_zero, List.set_cons_succ, i64_w, i32_w]
                     rfl
                    refine pure_ (i := 37) (N := some 103) (v := ?_) (a' := ?_) #[true, true, true, true, true, true, true, true, true, true, true, true, true, true, true, true, true, true, true, true, true, true, true, true, true, true, true, true, true, true, true, true, true, true, true, true, true, true, false, false, false, false, false, false, false, false, false, false, false, false, false, false, false, false, false, false, false, false] rfl rfl (any_of HT_.out (by kernel_rfl)) (fun _ _ _ h => h) (Or.inl ⟨by rfl, ?_⟩) ?_ ?_
                    rotate_left
                    ·intro w'
                     go_simp
                     with_reducible rfl
                    rotate_left
                    ·simp only [Act.put, List.setIfInBounds_toArray, List.set_cons_zero, List.set_cons_succ, i64_w, i32_w]
                     rfl
                    refine pure_ (i := 38) (N := some 104) (v := ?_) (a' := ?_) #[true, true, true, true, true, true, true, true, true, true, true, true, true, true, true, true, true, true, true, true, true, true, true, true, true, true, true, true, true, true, true, true, true, true, true, true, true, true, true, false, false, false, false, false, false, false, false, false, false, false, false, false, false, false, false, false, false, false] rfl rfl (any_of HT_.out (by kernel_rfl)) (fun _ _ _ h => h) (Or.inl ⟨by rfl, ?_⟩) ?_ ?_
                    rotate_left
                    ·intro w'
                     go_simp
                     with_reducible rfl
                    rotate_left
                    ·simp only [Act.put, List.setIfInBounds_toArray, List.set_cons_zero, List.set_cons_succ, i64_w, i32_w]
                     rfl
                    refine pure_ (i := 39) (N := some 105) (v := ?_) (a' := ?_) #[true, true, true, true, true, true, true, true, true, true, true, true, true, true, true, true, true, true, true, true, true, true, true, true, true, true, true, true, true, true, true, true, true, true, true, true, true, true, true, true, false, false, false, false, false, false, false, false, false, false, false, false, false, false, false, false, false, false] rfl rfl (any_of HT_.out (by kernel_rfl)) (fun _ _ _ h => h) (Or.inl ⟨by rfl, ?_⟩) ?_ ?_
                    rotate_left
                    ·intro w'
                     go_simp
                     with_reducible rfl
                    rotate_left
                    ·simp only [Act.put, List.setIfInBounds_toArray, List.set_cons_zero, List.set_cons_succ, i64_w, i32_w]
                     rfl
                    refine pure_ (i := 42) (N := some 108) (v := ?_) (a' := ?_) #[true, true, true, true, true, true, true, true, true, true, true, true, true, true, true, true, true, true, true, true, true, true, true, true, true, true, true, true, true, true, true, true, true, true, true, true, true, true, true, true, false, false, true, false, false, false, false, false, false, false, false, false, false, false, false, false, false, false] rfl rfl (any_of HT_.out (by kernel_rfl)) (fun _ _ _ h => h) (Or.inl ⟨by rfl, ?_⟩) ?_ ?_
                    rotate_left
                    ·intro w'
                     go_simp
                     with_reducible rfl
                    rotate_left
                    ·simp only [Act.put, List.setIfInBounds_toArray, List.set_cons_zero, List.set_cons_succ, i64_w, i32_w]
                     rfl
                    refine take_ (i := 40) (N := some 106) (v := ?_) (a' := ?_) #[true, true, true, true, true, true, true, true, true, true, true, true, true, true, true, true, true, true, true, true, true, true, true, true, true, true, true, true, true, true, true, true, true, true, true, true, true, true, true, true, true, false, true, false, false, false, false, false, false, false, false, false, false, false, false, false, false, false] rfl rfl (take_ofW HT_.out HW_.out (by kernel_rfl)) (fun _ _ _ h => h) (Or.inl ⟨by rfl, ?_⟩) hHeld ?_ ?_
                    rotate_left
                    ·rintro w' ⟨s0, s1, s2, s3, s4, s5, s6, s7, s8, s9⟩
                     go_simp
                     with_reducible rfl
                    rotate_left
                    ·simp only [Act.put, List.setIfInBounds_toArray, List.set_cons_zero, List.set_cons_succ, i64_w, i32_w]
                     rfl
                    refine one_ (i := 41) (N := some 107) #[true, true, true, true, true, true, true, true, true, true, true, true, true, true, true, true, true, true, true, true, true, true, true, true, true, true, true, true, true, true, true, true, true, true, true, true, true, true, true, true, true, true, true, false, false, false, false, false, false, false, false, false, false, false, false, false, false, false] rfl rfl (one_of HT_.out (by kernel_rfl)) (by decide) (fun K hK => ?_)
                    refine goes_ Try.func26 (by kernel_rfl) rfl #[.agg #[.slice Ao45 t685.length co45, .slice Ao48 t688.length co48]] (by rfl) rfl rfl (by (try simp only [List.map_toArray, List.map_cons, List.map_nil]); first | done | rfl | (simp only [List.length_drop, List.length_take]; rfl)) ?_
                    with_reducible refine (impl_MapGenus.calls kj8 _ _ t685 _ _ t688 t713 _ ?side1 ?side2 ?side3 ?side4 A35.out).mono ?_
                    (case side1 => exact cP (Kd.R_reads' HO687.out).2.2)
                    (case side2 => exact (Kd.R_reads' HO687.out).2.1)
                    (case side3 => exact cP (Kd.R_reads' HO690.out).2.2)
                    (case side4 => exact (Kd.R_reads' HO690.out).2.1)
                    rintro e w69 ⟨rfl, hb⟩
                    have HS6_ := (hb.cell (World.block_lt_of_cell? _ _ (hHeld.2.2.2.2.2.2.1))).trans (hHeld.2.2.2.2.2.2.1)
                    have HS7_ := (hb.cell (World.block_lt_of_cell? _ _ (hHeld.2.2.2.2.2.2.2.1))).trans (hHeld.2.2.2.2.2.2.2.1)
                    have HS8_ := (hb.cell (World.block_lt_of_cell? _ _ (hHeld.2.2.2.2.2.2.2.2.1))).trans (hHeld.2.2.2.2.2.2.2.2.1)
                    have HS9_ := (hb.cell (World.block_lt_of_cell? _ _ (hHeld.2.2.2.2.2.2.2.2.2))).trans (hHeld.2.2.2.2.2.2.2.2.2)
                    refine ⟨_, rfl, ?_⟩
                    have n0_ := Aside0.mk (Kd.Q_below (by (with_reducible repeat (first | apply Kd.Q_alloc | apply Kd.Q_drewN | apply Kd.Q_drew)); exact HO_679000.out) hb)
                    have n1_ := rB HO_679001 hb
                    have n2_ := rB HO683 hb
                    have n3_ := rB HO687 hb
                    have n4_ := rB HO690 hb
                    have n5_ := rB HO695 hb
                    have n6_ := rB HO698 hb
                    have n7_ := rB HO703 hb
                    have n8_ := rB HO706 hb
                    have n9_ := kB BK678 hb
                    have n10_ := kB BK692 hb
                    have n11_ := kB BK700 hb
                    have n12_ := kB BK708 hb
                    have n13_ := bS HB hb
                    clear HO_679000
                    clear HO_679001
                    clear HO683
                    clear HO687
                    clear HO690
                    clear HO695
                    clear HO698
                    clear HO703
                    clear HO706
                    clear BK678
                    clear BK692
                    clear BK700
                    clear BK708
                    clear HB
                    have HO_679000 := n0_
                    have HO_679001 := n1_
                    have HO683 := n2_
                    have HO687 := n3_
                    have HO690 := n4_
                    have HO695 := n5_
                    have HO698 := n6_
                    have HO703 := n7_
                    have HO706 := n8_
                    have BK678 := n9_
                    have BK692 := n10_
                    have BK700 := n11_
                    have BK708 := n12_
                    have HB := n13_
                    clear n0_ n1_ n2_ n3_ n4_ n5_ n6_ n7_ n8_ n9_ n10_ n11_ n12_ n13_
                    (try clear hb)
                    (try clear hb2)
                    (try clear hk)
                    (try clear hi)
                    refine hK.out _ _ ⟨(blk_cell BK692.out 0).trans rfl, (blk_cell BK692.out 1).trans rfl, (blk_cell BK700.out 0).trans rfl, (blk_cell BK700.out 1).trans rfl, (blk_cell BK708.out 0).trans rfl, (blk_cell BK708.out 1).trans rfl, HS6_, HS7_, HS8_, HS9_⟩ (fun hHeld => ?_)
                    clear hK K
                    refine norm_ (a' := ?_) ?_ ?_
                    rotate_left
                    ·show Act.put _ (some 107) _ = _
                     simp only [Act.put, List.setIfInBounds_toArray, List.set_cons_zero, List.set_cons_succ, i64_w, i32_w]
                     rfl
                    refine pure_ (i := 43) (N := some 109) (v := ?_) (a' := ?_) #[true, true, true, true, true, true, true, true, true, true, true, true, true, true, true, true, true, true, true, true, true, true, true, true, true, true, true, true, true, true, true, true, true, true, true, true, true, true, true, true, true, true, true, true, false, false, false, false, false, false, false, false, false, false, false, false, false, false] rfl rfl (any_of HT_.out (by kernel_rfl)) (fun _ _ _ h => h) (Or.inl ⟨by rfl, ?_⟩) ?_ ?_
                    rotate_left
                    ·intro w'
                     go_simp
                     with_reducible rfl
                    rotate_left
                    ·simp only [Act.put, List.setIfInBounds_toArray, List.set_cons_zero, List.set_cons_succ, i64_w, i32_w]
                     rfl
                    refine pure_ (i := 44) (N := some 110) (v := ?_) (a' := ?_) #[true, true, true, true, true, true, true, true, true, true, true, true, true, true, true, true, true, true, true, true, true, true, true, true, true, true, true, true, true, true, true, true, true, true, true, true, true, true, true, true, true, true, true, true, true, false, false, false, false, false, false, false, false, false, false, false, false, false] rfl rfl (any_of HT_.out (by kernel_rfl)) (fun _ _ _ h => h) (Or.inl ⟨by rfl, ?_⟩) ?_ ?_
                    rotate_left
                    ·intro w'
                     go_simp
                     with_reducible rfl
                    rotate_left
                    ·simp only [Act.put, List.setIfInBounds_toArray, List.set_cons_zero, List.set_cons_succ, i64_w, i32_w]
                     rfl
                    refine pure_ (i := 45) (N := some 111) (v := ?_) (a' := ?_) #[true, true, true, true, true, true, true, true, true, true, true, true, true, true, true, true, true, true, true, true, true, true, true, true, true, true, true, true, true, true, true, true, true, true, true, true, true, true, true, true, true, true, true, true, true, true, false, false, false, false, false, false, false, false, false, false, false, false] rfl rfl (any_of HT_.out (by kernel_rfl)) (fun _ _ _ h => h) (Or.inl ⟨by rfl, ?_⟩) ?_ ?_
                    rotate_left
                    ·intro w'
                     go_simp
                     with_reducible rfl
                    rotate_left
                    ·simp only [Act.put, List.setIfInBounds_toArray, List.set_cons_zero, List.set_cons_succ, i64_w, i32_w]
                     rfl
                    refine pure_ (i := 48) (N := some 114) (v := ?_) (a' := ?_) #[true, true, true, true, true, true, true, true, true, true, true, true, true, true, true, true, true, true, true, true, true, true, true, true, true, true, true, true, true, true, true, true, true, true, true, true, true, true, true, true, true, true, true, true, true, true, false, false, true, false, false, false, false, false, false, false, false, false] rfl rfl (any_of HT_.out (by kernel_rfl)) (fun _ _ _ h => h) (Or.inl ⟨by rfl, ?_⟩) ?_ ?_
                    rotate_left
                    ·intro w'
                     go_simp
                     with_reducible rfl
                    rotate_left
                    ·simp only [Act.put, List.setIfInBounds_toArray, List.set_cons_zero, List.set_cons_succ, i64_w, i32_w]
                     rfl
                    refine take_ (i := 46) (N := some 112) (v := ?_) (a' := ?_) #[true, true, true, true, true, true, true, true, true, true, true, true, true, true, true, true, true, true, true, true, true, true, true, true, true, true, true, true, true, true, true, true, true, true, true, true, true, true, true, true, true, true, true, true, true, true, true, false, true, false, false, false, false, false, false, false, false, false] rfl rfl (take_ofW HT_.out HW_.out (by kernel_rfl)) (fun _ _ _ h => h) (Or.inl ⟨by rfl, ?_⟩) hHeld ?_ ?_
                    rotate_left
                    ·rintro w' ⟨s0, s1, s2, s3, s4, s5, s6, s7, s8, s9⟩
                     go_simp
                     with_reducible rfl
                    rotate_left
                    ·simp only [Act.put, List.setIfInBounds_toArray, List.set_cons_zero, List.set_cons_succ, i64_w, i32_w]
                     rfl
                    refine one_ (i := 47) (N := some 113) #[true, true, true, true, true, true, true, true, true, true, true, true, true, true, true, true, true, true, true, true, true, true, true, true, true, true, true, true, true, true, true, true, true, true, true, true, true, true, true, true, true, true, true, true, true, true, true, true, true, false, false, false, false, false, false, false, false, false] rfl rfl (one_of HT_.out (by kernel_rfl)) (by decide) (fun K hK => ?_)
                    refine goes_ Try.func26 (by kernel_rfl) rfl #[.agg #[.slice Ao52 t693.length co52, .slice Ao56 t696.length co56]] (by rfl) rfl rfl (by (try simp only [List.map_toArray, List.map_cons, List.map_nil]); first | done | rfl | (simp only [List.length_drop, List.length_take]; rfl)) ?_
                    with_reducible refine (impl_MapGenus.calls kj8 _ _ t693 _ _ t696 t714 _ ?side1 ?side2 ?side3 ?side4 A37.out).mono ?_
                    (case side1 => exact cP (Kd.R_reads' HO695.out).2.2)
                    (case side2 => exact (Kd.R_reads' HO695.out).2.1)
                    (case side3 => exact cP (Kd.R_reads' HO698.out).2.2)
                    (case side4 => exact (Kd.R_reads' HO698.out).2.1)
                    rintro e w70 ⟨rfl, hb⟩
                    have HS6_ := (hb.cell (World.block_lt_of_cell? _ _ (hHeld.2.2.2.2.2.2.1))).trans (hHeld.2.2.2.2.2.2.1)
                    have HS7_ := (hb.cell (World.block_lt_of_cell? _ _ (hHeld.2.2.2.2.2.2.2.1))).trans (hHeld.2.2.2.2.2.2.2.1)
                    have HS8_ := (hb.cell (World.block_lt_of_cell? _ _ (hHeld.2.2.2.2.2.2.2.2.1))).trans (hHeld.2.2.2.2.2.2.2.2.1)
                    have HS9_ := (hb.cell (World.block_lt_of_cell? _ _ (hHeld.2.2.2.2.2.2.2.2.2))).trans (hHeld.2.2.2.2.2.2.2.2.2)
                    refine ⟨_, rfl, ?_⟩
                    have n0_ := Aside0.mk (Kd.Q_below (by (with_reducible repeat (first | apply Kd.Q_alloc | apply Kd.Q_drewN | apply Kd.Q_drew)); exact HO_679000.out) hb)
                    have n1_ := rB HO_679001 hb
                    have n2_ := rB HO683 hb
                    have n3_ := rB HO687 hb
                    have n4_ := rB HO690 hb
                    have n5_ := rB HO695 hb
                    have n6_ := rB HO698 hb
                    have n7_ := rB HO703 hb
                    have n8_ := rB HO706 hb
                    have n9_ := kB BK678 hb
                    have n10_ := kB BK692 hb
                    have n11_ := kB BK700 hb
                    have n12_ := kB BK708 hb
                    have n13_ := bS HB hb
                    clear HO_679000
                    clear HO_679001
                    clear HO683
                    clear HO687
                    clear HO690
                    clear HO695
                    clear HO698
                    clear HO703
                    clear HO706
                    clear BK678
                    clear BK692
                    clear BK700
                    clear BK708
                    clear HB
                    have HO_679000 := n0_
                    have HO_679001 := n1_
                    have HO683 := n2_
                    have HO687 := n3_
                    have HO690 := n4_
                    have HO695 := n5_
                    have HO698 := n6_
                    have HO703 := n7_
                    have HO706 := n8_
                    have BK678 := n9_
                    have BK692 := n10_
                    have BK700 := n11_
                    have BK708 := n12_
                    have HB := n13_
                    clear n0_ n1_ n2_ n3_ n4_ n5_ n6_ n7_ n8_ n9_ n10_ n11_ n12_ n13_
                    (try clear hb)
                    (try clear hb2)
                    (try clear hk)
                    (try clear hi)
                    refine hK.out _ _ ⟨(blk_cell BK692.out 0).trans rfl, (blk_cell BK692.out 1).trans rfl, (blk_cell BK700.out 0).trans rfl, (blk_cell BK700.out 1).trans rfl, (blk_cell BK708.out 0).trans rfl, (blk_cell BK708.out 1).trans rfl, HS6_, HS7_, HS8_, HS9_⟩ (fun hHeld => ?_)
                    clear hK K
                    refine norm_ (a' := ?_) ?_ ?_
                    rotate_left
                    ·show Act.put _ (some 113) _ = _
                     simp only [Act.put, List.setIfInBounds_toArray, List.set_cons_zero, List.set_cons_succ, i64_w, i32_w]
                     rfl
                    refine pure_ (i := 49) (N := some 115) (v := ?_) (a' := ?_) #[true, true, true, true, true, true, true, true, true, true, true, true, true, true, true, true, true, true, true, true, true, true, true, true, true, true, true, true, true, true, true, true, true, true, true, true, true, true, true, true, true, true, true, true, true, true, true, true, true, true, false, false, false, false, false, false, false, false] rfl rfl (any_of HT_.out (by kernel_rfl)) (fun _ _ _ h => h) (Or.inl ⟨by rfl, ?_⟩) ?_ ?_
                    rotate_left
                    ·intro w'
                     go_simp
                     with_reducible rfl
                    rotate_left
                    ·simp only [Act.put, List.setIfInBounds_toArray, List.set_cons_zero, List.set_cons_succ, i64_w, i32_w]
                     rfl
                    refine pure_ (i := 50) (N := some 116) (v := ?_) (a' := ?_) #[true, true, true, true, true, true, true, true, true, true, true, true, true, true, true, true, true, true, true, true, true, true, true, true, true, true, true, true, true, true, true, true, true, true, true, true, true, true, true, true, true, true, true, true, true, true, true, true, true, true, true, false, false, false, false, false, false, false] rfl rfl (any_of HT_.out (by kernel_rfl)) (fun _ _ _ h => h) (Or.inl ⟨by rfl, ?_⟩) ?_ ?_
                    rotate_left
                    ·intro w'
                     go_simp
                     with_reducible rfl
                    rotate_left
                    ·simp only [Act.put, List.setIfInBounds_toArray, List.set_cons_zero, List.set_cons_succ, i64_w, i32_w]
                     rfl
                    refine pure_ (i := 51) (N := some 117) (v := ?_) (a' := ?_) #[true, true, true, true, true, true, true, true, true, true, true, true, true, true, true, true, true, true, true, true, true, true, true, true, true, true, true, true, true, true, true, true, true, true, true, true, true, true, true, true, true, true, true, true, true, true, true, true, true, true, true, true, false, false, false, false, false, false] rfl rfl (any_of HT_.out (by kernel_rfl)) (fun _ _ _ h => h) (Or.inl ⟨by rfl, ?_⟩) ?_ ?_
                    rotate_left
                    ·intro w'
                     go_simp
                     with_reducible rfl
                    rotate_left
                    ·simp only [Act.put, List.setIfInBounds_toArray, List.set_cons_zero, List.set_cons_succ, i64_w, i32_w]
                     rfl
                    refine pure_ (i := 54) (N := some 120) (v := ?_) (a' := ?_) #[true, true, true, true, true, true, true, true, true, true, true, true, true, true, true, true, true, true, true, true, true, true, true, true, true, true, true, true, true, true, true, true, true, true, true, true, true, true, true, true, true, true, true, true, true, true, true, true, true, true, true, true, false, false, true, false, false, false] rfl rfl (any_of HT_.out (by kernel_rfl)) (fun _ _ _ h => h) (Or.inl ⟨by rfl, ?_⟩) ?_ ?_
                    rotate_left
                    ·intro w'
                     go_simp
                     with_reducible rfl
                    rotate_left
                    ·simp only [Act.put, List.setIfInBounds_toArray, List.set_cons_zero, List.set_cons_succ, i64_w, i32_w]
                     rfl
                    refine take_ (i := 52) (N := some 118) (v := ?_) (a' := ?_) #[true, true, true, true, true, true, true, true, true, true, true, true, true, true, true, true, true, true, true, true, true, true, true, true, true, true, true, true, true, true, true, true, true, true, true, true, true, true, true, true, true, true, true, true, true, true, true, true, true, true, true, true, true, false, true, false, false, false] rfl rfl (take_ofW HT_.out HW_.out (by kernel_rfl)) (fun _ _ _ h => h) (Or.inl ⟨by rfl, ?_⟩) hHeld ?_ ?_
                    rotate_left
                    ·rintro w' ⟨s0, s1, s2, s3, s4, s5, s6, s7, s8, s9⟩
                     go_simp
                     with_reducible rfl
                    rotate_left
                    ·simp only [Act.put, List.setIfInBounds_toArray, List.set_cons_zero, List.set_cons_succ, i64_w, i32_w]
                     rfl
                    refine one_ (i := 53) (N := some 119) #[true, true, true, true, true, true, true, true, true, true, true, true, true, true, true, true, true, true, true, true, true, true, true, true, true, true, true, true, true, true, true, true, true, true, true, true, true, true, true, true, true, true, true, true, true, true, true, true, true, true, true, true, true, true, true, false, false, false] rfl rfl (one_of HT_.out (by kernel_rfl)) (by decide) (fun K hK => ?_)
                    refine goes_ Try.func26 (by kernel_rfl) rfl #[.agg #[.slice Ao62 t701.length co62, .slice Ao64 t704.length co64]] (by rfl) rfl rfl (by (try simp only [List.map_toArray, List.map_cons, List.map_nil]); first | done | rfl | (simp only [List.length_drop, List.length_take]; rfl)) ?_
                    with_reducible refine (impl_MapGenus.calls kj8 _ _ t701 _ _ t704 t715 _ ?side1 ?side2 ?side3 ?side4 A39.out).mono ?_
                    (case side1 => exact cP (Kd.R_reads' HO703.out).2.2)
                    (case side2 => exact (Kd.R_reads' HO703.out).2.1)
                    (case side3 => exact cP (Kd.R_reads' HO706.out).2.2)
                    (case side4 => exact (Kd.R_reads' HO706.out).2.1)
                    rintro e w71 ⟨rfl, hb⟩
                    have HS6_ := (hb.cell (World.block_lt_of_cell? _ _ (hHeld.2.2.2.2.2.2.1))).trans (hHeld.2.2.2.2.2.2.1)
                    have HS7_ := (hb.cell (World.block_lt_of_cell? _ _ (hHeld.2.2.2.2.2.2.2.1))).trans (hHeld.2.2.2.2.2.2.2.1)
                    have HS8_ := (hb.cell (World.block_lt_of_cell? _ _ (hHeld.2.2.2.2.2.2.2.2.1))).trans (hHeld.2.2.2.2.2.2.2.2.1)
                    have HS9_ := (hb.cell (World.block_lt_of_cell? _ _ (hHeld.2.2.2.2.2.2.2.2.2))).trans (hHeld.2.2.2.2.2.2.2.2.2)
                    refine ⟨_, rfl, ?_⟩
                    have n0_ := Aside0.mk (Kd.Q_below (by (with_reducible repeat (first | apply Kd.Q_alloc | apply Kd.Q_drewN | apply Kd.Q_drew)); exact HO_679000.out) hb)
                    have n1_ := rB HO_679001 hb
                    have n2_ := rB HO683 hb
                    have n3_ := rB HO687 hb
                    have n4_ := rB HO690 hb
                    have n5_ := rB HO695 hb
                    have n6_ := rB HO698 hb
                    have n7_ := rB HO703 hb
                    have n8_ := rB HO706 hb
                    have n9_ := kB BK678 hb
                    have n10_ := kB BK692 hb
                    have n11_ := kB BK700 hb
                    have n12_ := kB BK708 hb
                    have n13_ := bS HB hb
                    clear HO_679000
                    clear HO_679001
                    clear HO683
                    clear HO687
                    clear HO690
                    clear HO695
                    clear HO698
                    clear HO703
                    clear HO706
                    clear BK678
                    clear BK692
                    clear BK700
                    clear BK708
                    clear HB
                    have HO_679000 := n0_
                    have HO_679001 := n1_
                    have HO683 := n2_
                    have HO687 := n3_
                    have HO690 := n4_
                    have HO695 := n5_
                    have HO698 := n6_
                    have HO703 := n7_
                    have HO706 := n8_
                    have BK678 := n9_
                    have BK692 := n10_
                    have BK700 := n11_
                    have BK708 := n12_
                    have HB := n13_
                    clear n0_ n1_ n2_ n3_ n4_ n5_ n6_ n7_ n8_ n9_ n10_ n11_ n12_ n13_
                    (try clear hb)
                    (try clear hb2)
                    (try clear hk)
                    (try clear hi)
                    refine hK.out _ _ ⟨(blk_cell BK692.out 0).trans rfl, (blk_cell BK692.out 1).trans rfl, (blk_cell BK700.out 0).trans rfl, (blk_cell BK700.out 1).trans rfl, (blk_cell BK708.out 0).trans rfl, (blk_cell BK708.out 1).trans rfl, HS6_, HS7_, HS8_, HS9_⟩ (fun hHeld => ?_)
                    clear hK K
                    refine norm_ (a' := ?_) ?_ ?_
                    rotate_left
                    ·show Act.put _ (some 119) _ = _
                     simp only [Act.put, List.setIfInBounds_toArray, List.set_cons_zero, List.set_cons_succ, i64_w, i32_w]
                     rfl
                    refine pure_ (i := 55) (N := some 121) (v := ?_) (a' := ?_) #[true, true, true, true, true, true, true, true, true, true, true, true, true, true, true, true, true, true, true, true, true, true, true, true, true, true, true, true, true, true, true, true, true, true, true, true, true, true, true, true, true, true, true, true, true, true, true, true, true, true, true, true, true, true, true, true, false, false] rfl rfl (any_of HT_.out (by kernel_rfl)) (fun _ _ _ h => h) (Or.inl ⟨by rfl, ?_⟩) ?_ ?_
                    rotate_left
                    ·intro w'
                     go_simp
                     with_reducible rfl
                    rotate_left
                    ·simp only [Act.put, List.setIfInBounds_toArray, List.set_cons_zero, List.set_cons_succ, i64_w, i32_w]
                     rfl
                    refine pure_ (i := 56) (N := some 122) (v := ?_) (a' := ?_) #[true, true, true, true, true, true, true, true, true, true, true, true, true, true, true, true, true, true, true, true, true, true, true, true, true, true, true, true, true, true, true, true, true, true, true, true, true, true, true, true, true, true, true, true, true, true, true, true, true, true, true, true, true, true, true, true, true, false] rfl rfl (any_of HT_.out (by kernel_rfl)) (fun _ _ _ h => h) (Or.inl ⟨by rfl, ?_⟩) ?_ ?_
                    rotate_left
                    ·intro w'
                     go_simp
                     with_reducible rfl
                    rotate_left
                    ·simp only [Act.put, List.setIfInBounds_toArray, List.set_cons_zero, List.set_cons_succ, i64_w, i32_w]
                     rfl
                    refine pure_ (i := 57) (N := some 4) (v := ?_) (a' := ?_) #[true, true, true, true, true, true, true, true, true, true, true, true, true, true, true, true, true, true, true, true, true, true, true, true, true, true, true, true, true, true, true, true, true, true, true, true, true, true, true, true, true, true, true, true, true, true, true, true, true, true, true, true, true, true, true, true, true, true] rfl rfl (any_of HT_.out (by kernel_rfl)) (fun _ _ _ h => h) (Or.inl ⟨by rfl, ?_⟩) ?_ ?_
                    rotate_left
                    ·intro w'
                     go_simp
                     with_reducible rfl
                    rotate_left
                    ·simp only [Act.put, List.setIfInBounds_toArray, List.set_cons_zero, List.set_cons_succ, i64_w, i32_w]
                     rfl
                    refine done_ (done_of HT_.out (by kernel_rfl)) ?_
                    try go_wp2
                    go_ret
                    exact ⟨eR, bP HB⟩
                   ·rw [if_neg c38] at H
                    have c38b0 : (t714 == t679) = false := beq_eq_false_iff_ne.mpr c38
                    have c38b1 : (t714 != t679) = true := bne_iff_ne.mpr c38
                    exact absurd ((Option.some.inj H).trans hr_.out) (by decide)
                  ·rw [if_neg c36] at H
                   have c36b0 : (t713 == t679) = false := beq_eq_false_iff_ne.mpr c36
                   have c36b1 : (t713 != t679) = true := bne_iff_ne.mpr c36
                   exact absurd ((Option.some.inj H).trans hr_.out) (by decide)
                 ·rw [if_neg c34] at H
                  have c34b0 : decide ((wrap64 (2 * t679)) ≤ (rd t681 1)) = false := decide_eq_false c34
                  clear c34
                  exact absurd ((Option.some.inj H).trans hr_.out) (by decide)
                ·rw [if_neg c33] at H
                 have c33b0 : decide (0 ≤ t679) = false := decide_eq_false c33
                 clear c33
                 exact absurd ((Option.some.inj H).trans hr_.out) (by decide)
               ·rw [if_neg c32] at H
                have c32b0 : ((wrap64 ((wrap64 ((rd t681 0) - (rd t681 1))) + (rd t681 2))) == (wrap64 (2 - (wrap64 (2 * t679))))) = false := beq_eq_false_iff_ne.mpr c32
                have c32b1 : ((wrap64 ((wrap64 ((rd t681 0) - (rd t681 1))) + (rd t681 2))) != (wrap64 (2 - (wrap64 (2 * t679))))) = true := bne_iff_ne.mpr c32
                exact absurd ((Option.some.inj H).trans hr_.out) (by decide)
              ·rw [if_neg c31] at H
               exact absurd H (by simp)
             ·rw [if_neg c30] at H
              exact absurd H (by simp)
            ·rw [if_neg c29] at H
             exact absurd H (by simp)
           ·replace c28 := Bool.eq_false_iff.mpr c28
            subst c28
            have H1 : (some false) = some r := by rw [if_neg (show ¬ (false = true) by decide)] at H; exact H
            clear H
            have H := H1
            clear H1
            exact absurd ((Option.some.inj H).trans hr_.out) (by decide)
          ·replace c27 := Bool.eq_false_iff.mpr c27
           subst c27
           have H1 : (some false) = some r := by rw [if_neg (show ¬ (false = true) by decide)] at H; exact H
           clear H
           have H := H1
           clear H1
           exact absurd ((Option.some.inj H).trans hr_.out) (by decide)
         ·replace c26 := Bool.eq_false_iff.mpr c26
          subst c26
          have H1 : (some false) = some r := by rw [if_neg (show ¬ (false = true) by decide)] at H; exact H
          clear H
          have H := H1
          clear H1
          exact absurd ((Option.some.inj H).trans hr_.out) (by decide)
        ·replace c25 := Bool.eq_false_iff.mpr c25
         subst c25
         have H1 : (some false) = some r := by rw [if_neg (show ¬ (false = true) by decide)] at H; exact H
         clear H
         have H := H1
         clear H1
         exact absurd ((Option.some.inj H).trans hr_.out) (by decide)

/-- THE ONE PURE STATEMENT of laws_FnGenus: yours. -/
def laws_FnGenus.Pure : Prop := ∀ (l0 : List Int) (l1 : List Int), l0.length ≤ maxLen → l0.length * 1 ≤ 140737488351232 → (∀ x ∈ l0, (Lit.int .u8 x).wf = true) → l1.length ≤ maxLen → l1.length * 1 ≤ 140737488351232 → (∀ x ∈ l1, (Lit.int .u8 x).wf = true) → ∃ k, laws_FnGenus.f k l0 l1 = some true
theorem laws_FnGenus.walk (P : laws_FnGenus.Pure) (a0 : Option Addr) (len0 cap0 : Nat) (z0 : List Int) (a1 : Option Addr) (len1 cap1 : Nat) (z1 : List Int) (w : World) (w0 : (a0 = none ∧ len0 = 0 ∧ cap0 = 0 ∧ z0 = []) ∨ ∃ x, a0 = some x ∧ len0 ≤ cap0 ∧ cap0 ≤ maxLen ∧ z0.length = cap0 ∧ (∀ i, i < z0.length → w.cell? (x.add i) = some (.int .u8 (z0.getD i 0))) ∧ ∀ n ∈ z0, (Lit.int .u8 n).wf = true) (y0 : len0 * 1 ≤ 140737488351232) (w1 : (a1 = none ∧ len1 = 0 ∧ cap1 = 0 ∧ z1 = []) ∨ ∃ x, a1 = some x ∧ len1 ≤ cap1 ∧ cap1 ≤ maxLen ∧ z1.length = cap1 ∧ (∀ i, i < z1.length → w.cell? (x.add i) = some (.int .u8 (z1.getD i 0))) ∧ ∀ n ∈ z1, (Lit.int .u8 n).wf = true) (y1 : len1 * 1 ≤ 140737488351232) :
 Calls Try.prog 6 #[.slice a0 len0 cap0, .slice a1 len1 cap1] w fun e w' => e = .returned (.bool true) ∧ Below w.heap.size w w' := by
 obtain ⟨l0, rfl, hr0, hm0, hw0, hc0⟩ := ReadsInt.ofRowC w0
 obtain ⟨l1, rfl, hr1, hm1, hw1, hc1⟩ := ReadsInt.ofRowC w1
 obtain ⟨k, h⟩ := P l0 l1 hm0 y0 hw0 hm1 y1 hw1
 refine (laws_FnGenus.calls k _ _ l0 _ _ l1 true w (Kd.C_of_reads (d := (0 : Int)) (h1 := fun _ => rfl) hr0) hc0 (Kd.C_of_reads (d := (0 : Int)) (h1 := fun _ => rfl) hr1) hc1 ⟨rfl⟩ h).mono ?_
 rintro e w' ⟨rfl, hd⟩
 exact ⟨rfl, hd⟩

end Go.Proofs.Ytihabnfccgjfbaa.F
