/- Contracts: what these Go functions return. -/
import Derived.Test.YteffimfifgnleaaF0
import Derived.Test.YteffimfifgnleaaF23
import Derived.Test.YteffimfifgnleaaF37
import Derived.Test.YteffimfifgnleaaF40
namespace Go.Proofs.Yteffimfifgnleaa.F
open Go.RowKit Go.Proofs.YteffimfifgnleaaW.PrintWords Go.Proofs.YteffimfifgnleaaW.PrintLast Go.Proofs.YteffimfifgnleaaW.PrintMore
attribute [local go_sem] max2_int min2_int max_two min_two max_three min_three max_four min_four
set_option linter.unusedVariables false
set_option linter.unusedSimpArgs false

/-! ### spec_MapSame: function 38 -/
def spec_MapSame.f (k : Nat) (l0_0 : List Int) (l0_1 : List Int) (l1_0 : List Int) (l1_1 : List Int) : Option (Bool) := (spec_MapValid.f k l0_0 l0_1).bind fun t622 => (if t622 = true then ((spec_MapValid.f k l1_0 l1_1).bind fun t623 => (if t623 = true then (if (l0_0.length : Int) = (l1_0.length : Int) then ((spec_l2Least.f k l0_0 l0_1).bind fun bt624 => ((spec_l2Least.f k l1_0 l1_1).bind fun bt630 => ((spec_l2Before.f k bt624.1 bt624.2 bt630.1 bt630.2).bind fun t636 => (some (t636 == 0))))) else (some false)) else (some false))) else (some false))
def spec_MapSame.T1 : Bool × List (List Nat × List Nat) := (true, [([], []), ([0], [0]), ([1, 1], [1]), ([2], [2]), ([3, 2, 2], [2, 3]), ([2, 4], [2, 4]), ([5, 4], [5]), ([6], [6]), ([7, 6], [6, 7]), ([8, 6], [6, 8]), ([6], [6]), ([10, 6], [6, 10]), ([11, 6], [6, 11]), ([9, 12, 6], [6, 9, 12]), ([6, 13], [6, 13]), ([14, 6], [14]), ([15], [15]), ([16, 15, 15], [15, 16]), ([15], [15]), ([18, 17, 15], [15, 18]), ([17, 19, 19, 15], [15, 17, 19]), ([20, 15], [15, 20]), ([15, 21], [15, 21]), ([22, 20, 0, 1, 2, 3, 4, 5, 6, 7, 8, 9, 10, 11, 12, 13, 14, 15, 16, 17, 18, 19, 20, 21, 22], [22])])
def spec_MapSame.B1 : List Nat := [0, 1, 3, 7, 15, 31, 63, 127, 255, 511, 127, 1151, 3199, 8191, 16383, 32767, 65535, 131071, 65535, 524287, 1048575, 2097151, 4194303, 8388607]
theorem spec_MapSame.tab1 : rtab .any (opsOf Try.f38 1) = spec_MapSame.T1 := by kernel_rfl
theorem spec_MapSame.bits1 : waitsOk spec_MapSame.T1.2 spec_MapSame.B1 = true := by kernel_rfl
set_option maxHeartbeats 8000000 in
set_option maxRecDepth 100000 in
theorem spec_MapSame.calls (k : Nat) (A0_0 : Option Addr) (c0_0 : Nat) (l0_0 : List Int) (A0_1 : Option Addr) (c0_1 : Nat) (l0_1 : List Int) (A1_0 : Option Addr) (c1_0 : Nat) (l1_0 : List Int) (A1_1 : Option Addr) (c1_1 : Nat) (l1_1 : List Int) (r : Bool) (w : World) (hr0_0 : Kd.C (Kd.int .i64) w A0_0 l0_0.length l0_0) (hc0_0 : l0_0.length ≤ c0_0) (hr0_1 : Kd.C (Kd.int .i64) w A0_1 l0_1.length l0_1) (hc0_1 : l0_1.length ≤ c0_1) (hr1_0 : Kd.C (Kd.int .i64) w A1_0 l1_0.length l1_0) (hc1_0 : l1_0.length ≤ c1_0) (hr1_1 : Kd.C (Kd.int .i64) w A1_1 l1_1.length l1_1) (hc1_1 : l1_1.length ≤ c1_1) (h : spec_MapSame.f k l0_0 l0_1 l1_0 l1_1 = some r) :
 Calls Try.prog 38 #[.agg #[.slice A0_0 l0_0.length c0_0, .slice A0_1 l0_1.length c0_1], .agg #[.slice A1_0 l1_0.length c1_0, .slice A1_1 l1_1.length c1_1]] w fun e w' => e = .returned (.bool r) ∧ Below w.heap.size w w' := by
 have hu40 := Try.underlying40
 have HR0_0 := Aside0.mk hr0_0
 have HC0_0 := Aside0.mk hc0_0
 clear hr0_0 hc0_0
 have HR0_1 := Aside0.mk hr0_1
 have HC0_1 := Aside0.mk hc0_1
 clear hr0_1 hc0_1
 have HR1_0 := Aside0.mk hr1_0
 have HC1_0 := Aside0.mk hc1_0
 clear hr1_0 hc1_0
 have HR1_1 := Aside0.mk hr1_1
 have HC1_1 := Aside0.mk hc1_1
 clear hr1_1 hc1_1
 have HB := Aside0.mk (Below.refl w.heap.size w)
 have H : ((spec_MapValid.f k l0_0 l0_1).bind fun t622 => (if t622 = true then ((spec_MapValid.f k l1_0 l1_1).bind fun t623 => (if t623 = true then (if (l0_0.length : Int) = (l1_0.length : Int) then ((spec_l2Least.f k l0_0 l0_1).bind fun bt624 => ((spec_l2Least.f k l1_0 l1_1).bind fun bt630 => ((spec_l2Before.f k bt624.1 bt624.2 bt630.1 bt630.2).bind fun t636 => (some (t636 == 0))))) else (some false)) else (some false))) else (some false))) = some r := h
 clear h
 obtain ⟨t622, A30, H⟩ := Option.bind_eq_some_iff.mp H
 have A3 := Aside0.mk A30
 clear A30
 by_cases c4 : t622 = true
 ·subst c4
  rw [if_pos rfl] at H
  obtain ⟨t623, A50, H⟩ := Option.bind_eq_some_iff.mp H
  have A5 := Aside0.mk A50
  clear A50
  by_cases c6 : t623 = true
  case neg =>
   replace c6 := Bool.eq_false_iff.mpr c6
   subst c6
   rw [iF] at H
   obtain rfl := Option.some.inj H
   go_enter Try.func38, Try.ntmps38
   try go_wp2_with (first | ((with_reducible refine gate_dst (N := 2) rfl ?_); (try (refine gate_guard (by rfl) ?_; dsimp only)); refine bE 2 #[.slice A0_0 l0_0.length c0_0, .slice A0_1 l0_1.length c0_1] 40 ?_; intro gb620 hg w28 hbox hb; have BK620 := Aside0.mk (hbox); have GW620 := gS HB hg; have GE620 := gS HB hg; replace HB := bS HB hb; clear hb hbox hg) | ((with_reducible refine gate_dst (N := 3) rfl ?_); (try (refine gate_guard (by rfl) ?_; dsimp only)); refine bE 3 #[.slice A1_0 l1_0.length c1_0, .slice A1_1 l1_1.length c1_1] 40 ?_; intro gb621 hg w29 hbox hb; have BK621 := Aside0.mk (hbox); have GW621 := gS HB hg; have GE621 := gS HB hg; replace HB := bS HB hb; have NB620_621 := nL BK620 hg; have NB621_620 := nG BK620 hg; replace BK620 := kB BK620 hb; clear hb hbox hg))
   replace BK620 := Aside0.mk (blk_drew BK620.out)
   replace BK621 := Aside0.mk (blk_drew BK621.out)
   replace HB := Aside0.mk (below_drew1 HB.out)
   refine start_ (n := 24) (S := fun w' => w'.cell? ⟨gb620, 0, none⟩ = some (.slice A0_0 l0_0.length c0_0) ∧ w'.cell? ⟨gb620, 1, none⟩ = some (.slice A0_1 l0_1.length c0_1) ∧ w'.cell? ⟨gb621, 0, none⟩ = some (.slice A1_0 l1_0.length c1_0) ∧ w'.cell? ⟨gb621, 1, none⟩ = some (.slice A1_1 l1_1.length c1_1)) (ds := []) (tf 0 24) (by kernel_rfl) rfl rfl ⟨(blk_cell BK620.out 0).trans rfl, (blk_cell BK620.out 1).trans rfl, (blk_cell BK621.out 0).trans rfl, (blk_cell BK621.out 1).trans rfl⟩ (fun hHeld => ?_); refine with_tabW spec_MapSame.tab1 spec_MapSame.bits1 (fun HT_ HW_ => ?_)
   generalize w29.drew = w30 at BK620 BK621 HB hHeld ⊢
   refine tV 0 5 (tf 1 23) HT_ HW_ hHeld ?_
   refine eN 1 (some 6) (tf 2 22) HT_ (fun K hK => ?_)
   refine goes_ Try.func57 (by kernel_rfl) rfl #[.agg #[.slice A0_0 l0_0.length c0_0, .slice A0_1 l0_1.length c0_1]] (by rfl) rfl rfl (by (try simp only [List.map_toArray, List.map_cons, List.map_nil]); first | done | rfl | (simp only [List.length_drop, List.length_take]; rfl)) ?_
   with_reducible refine (spec_MapValid.calls k _ _ l0_0 _ _ l0_1 true _ ?side1 ?side2 ?side3 ?side4 A3.out).mono ?_
   (case side1 => exact cB HR0_0 HB)
   (case side2 => exact HC0_0.out)
   (case side3 => exact cB HR0_1 HB)
   (case side4 => exact HC0_1.out)
   rintro e w31 ⟨rfl, hb⟩
   refine ⟨_, rfl, ?_⟩
   replace BK620 := kB BK620 hb
   replace BK621 := kB BK621 hb
   replace HB := bS HB hb
   (try clear hb)
   (try clear hb2)
   (try clear hk)
   (try clear hi)
   refine hK.out _ _ ⟨(blk_cell BK620.out 0).trans rfl, (blk_cell BK620.out 1).trans rfl, (blk_cell BK621.out 0).trans rfl, (blk_cell BK621.out 1).trans rfl⟩ (fun hHeld => ?_)
   clear hK K
   refine norm_ (a' := ?_) ?_ ?_
   rotate_left
   ·show Act.put _ (some 6) _ = _
    simp only [Act.put, List.setIfInBounds_toArray, List.set_cons_zero, List.set_cons_succ, i64_w, i32_w]
    rfl
   refine pV 2 7 (tf 3 21) HT_ ?_
   refine tV 3 8 (tf 4 20) HT_ HW_ hHeld ?_
   refine eN 4 (some 9) (tf 5 19) HT_ (fun K hK => ?_)
   refine goes_ Try.func57 (by kernel_rfl) rfl #[.agg #[.slice A1_0 l1_0.length c1_0, .slice A1_1 l1_1.length c1_1]] (by rfl) rfl rfl (by (try simp only [List.map_toArray, List.map_cons, List.map_nil]); first | done | rfl | (simp only [List.length_drop, List.length_take]; rfl)) ?_
   with_reducible refine (spec_MapValid.calls k _ _ l1_0 _ _ l1_1 false _ ?side1 ?side2 ?side3 ?side4 A5.out).mono ?_
   (case side1 => exact cB HR1_0 HB)
   (case side2 => exact HC1_0.out)
   (case side3 => exact cB HR1_1 HB)
   (case side4 => exact HC1_1.out)
   rintro e w32 ⟨rfl, hb⟩
   refine ⟨_, rfl, ?_⟩
   replace BK620 := kB BK620 hb
   replace BK621 := kB BK621 hb
   replace HB := bS HB hb
   (try clear hb)
   (try clear hb2)
   (try clear hk)
   (try clear hi)
   refine hK.out _ _ ⟨(blk_cell BK620.out 0).trans rfl, (blk_cell BK620.out 1).trans rfl, (blk_cell BK621.out 0).trans rfl, (blk_cell BK621.out 1).trans rfl⟩ (fun hHeld => ?_)
   clear hK K
   refine norm_ (a' := ?_) ?_ ?_
   rotate_left
   ·show Act.put _ (some 9) _ = _
    simp only [Act.put, List.setIfInBounds_toArray, List.set_cons_zero, List.set_cons_succ, i64_w, i32_w]
    rfl
   refine pV 5 10 (tf 6 18) HT_ ?_
   refine pV 6 11 (tf 7 17) HT_ ?_
   refine pU 7 12 (tf 8 16) HT_ ?_
   refine pU 8 13 (tf 9 15) HT_ ?_
   refine pU 9 14 (tf 10 14) HT_ ?_
   refine pU 10 15 (tf 11 13) HT_ ?_
   refine pU 11 16 (tf 12 12) HT_ ?_
   refine pU 12 17 (tf 13 11) HT_ ?_
   refine pU 13 18 (tf 14 10) HT_ ?_
   refine pV 14 19 (tf 15 9) HT_ ?_
   refine pV 15 20 (tf 16 8) HT_ ?_
   refine pU 16 21 (tf 17 7) HT_ ?_
   refine pU 17 22 (tf 18 6) HT_ ?_
   refine pU 18 23 (tf 19 5) HT_ ?_
   refine pU 19 24 (tf 20 4) HT_ ?_
   refine pU 20 25 (tf 21 3) HT_ ?_
   refine pU 21 26 (tf 22 2) HT_ ?_
   refine pV 22 27 (tf 23 1) HT_ ?_
   refine pV 23 4 (tf 24 0) HT_ ?_
   refine done_ (done_of HT_.out (by kernel_rfl)) ?_
   try go_wp2
   go_ret
   exact ⟨eR, bP HB⟩
  subst c6
  rw [if_pos rfl] at H
  by_cases c7 : (l0_0.length : Int) = (l1_0.length : Int)
  case neg =>
   rw [if_neg c7] at H
   have c7b0 : ((l0_0.length : Int) == (l1_0.length : Int)) = false := beq_eq_false_iff_ne.mpr c7
   have c7b1 : ((l0_0.length : Int) != (l1_0.length : Int)) = true := bne_iff_ne.mpr c7
   have c7b2 : (l0_0.length == l1_0.length) = false := by first | simpa using c7 | (simp at c7 ⊢; omega)
   obtain rfl := Option.some.inj H
   go_enter Try.func38, Try.ntmps38
   try go_wp2_with (first | ((with_reducible refine gate_dst (N := 2) rfl ?_); (try (refine gate_guard (by rfl) ?_; dsimp only)); refine bE 2 #[.slice A0_0 l0_0.length c0_0, .slice A0_1 l0_1.length c0_1] 40 ?_; intro gb620 hg w23 hbox hb; have BK620 := Aside0.mk (hbox); have GW620 := gS HB hg; have GE620 := gS HB hg; replace HB := bS HB hb; clear hb hbox hg) | ((with_reducible refine gate_dst (N := 3) rfl ?_); (try (refine gate_guard (by rfl) ?_; dsimp only)); refine bE 3 #[.slice A1_0 l1_0.length c1_0, .slice A1_1 l1_1.length c1_1] 40 ?_; intro gb621 hg w24 hbox hb; have BK621 := Aside0.mk (hbox); have GW621 := gS HB hg; have GE621 := gS HB hg; replace HB := bS HB hb; have NB620_621 := nL BK620 hg; have NB621_620 := nG BK620 hg; replace BK620 := kB BK620 hb; clear hb hbox hg))
   replace BK620 := Aside0.mk (blk_drew BK620.out)
   replace BK621 := Aside0.mk (blk_drew BK621.out)
   replace HB := Aside0.mk (below_drew1 HB.out)
   refine start_ (n := 24) (S := fun w' => w'.cell? ⟨gb620, 0, none⟩ = some (.slice A0_0 l0_0.length c0_0) ∧ w'.cell? ⟨gb620, 1, none⟩ = some (.slice A0_1 l0_1.length c0_1) ∧ w'.cell? ⟨gb621, 0, none⟩ = some (.slice A1_0 l1_0.length c1_0) ∧ w'.cell? ⟨gb621, 1, none⟩ = some (.slice A1_1 l1_1.length c1_1)) (ds := []) (tf 0 24) (by kernel_rfl) rfl rfl ⟨(blk_cell BK620.out 0).trans rfl, (blk_cell BK620.out 1).trans rfl, (blk_cell BK621.out 0).trans rfl, (blk_cell BK621.out 1).trans rfl⟩ (fun hHeld => ?_); refine with_tabW spec_MapSame.tab1 spec_MapSame.bits1 (fun HT_ HW_ => ?_)
   generalize w24.drew = w25 at BK620 BK621 HB hHeld ⊢
   refine tV 0 5 (tf 1 23) HT_ HW_ hHeld ?_
   refine eN 1 (some 6) (tf 2 22) HT_ (fun K hK => ?_)
   refine goes_ Try.func57 (by kernel_rfl) rfl #[.agg #[.slice A0_0 l0_0.length c0_0, .slice A0_1 l0_1.length c0_1]] (by rfl) rfl rfl (by (try simp only [List.map_toArray, List.map_cons, List.map_nil]); first | done | rfl | (simp only [List.length_drop, List.length_take]; rfl)) ?_
   with_reducible refine (spec_MapValid.calls k _ _ l0_0 _ _ l0_1 true _ ?side1 ?side2 ?side3 ?side4 A3.out).mono ?_
   (case side1 => exact cB HR0_0 HB)
   (case side2 => exact HC0_0.out)
   (case side3 => exact cB HR0_1 HB)
   (case side4 => exact HC0_1.out)
   rintro e w26 ⟨rfl, hb⟩
   refine ⟨_, rfl, ?_⟩
   replace BK620 := kB BK620 hb
   replace BK621 := kB BK621 hb
   replace HB := bS HB hb
   (try clear hb)
   (try clear hb2)
   (try clear hk)
   (try clear hi)
   refine hK.out _ _ ⟨(blk_cell BK620.out 0).trans rfl, (blk_cell BK620.out 1).trans rfl, (blk_cell BK621.out 0).trans rfl, (blk_cell BK621.out 1).trans rfl⟩ (fun hHeld => ?_)
   clear hK K
   refine norm_ (a' := ?_) ?_ ?_
   rotate_left
   ·show Act.put _ (some 6) _ = _
    simp only [Act.put, List.setIfInBounds_toArray, List.set_cons_zero, List.set_cons_succ, i64_w, i32_w]
    rfl
   refine pV 2 7 (tf 3 21) HT_ ?_
   refine tV 3 8 (tf 4 20) HT_ HW_ hHeld ?_
   refine eN 4 (some 9) (tf 5 19) HT_ (fun K hK => ?_)
   refine goes_ Try.func57 (by kernel_rfl) rfl #[.agg #[.slice A1_0 l1_0.length c1_0, .slice A1_1 l1_1.length c1_1]] (by rfl) rfl rfl (by (try simp only [List.map_toArray, List.map_cons, List.map_nil]); first | done | rfl | (simp only [List.length_drop, List.length_take]; rfl)) ?_
   with_reducible refine (spec_MapValid.calls k _ _ l1_0 _ _ l1_1 true _ ?side1 ?side2 ?side3 ?side4 A5.out).mono ?_
   (case side1 => exact cB HR1_0 HB)
   (case side2 => exact HC1_0.out)
   (case side3 => exact cB HR1_1 HB)
   (case side4 => exact HC1_1.out)
   rintro e w27 ⟨rfl, hb⟩
   refine ⟨_, rfl, ?_⟩
   replace BK620 := kB BK620 hb
   replace BK621 := kB BK621 hb
   replace HB := bS HB hb
   (try clear hb)
   (try clear hb2)
   (try clear hk)
   (try clear hi)
   refine hK.out _ _ ⟨(blk_cell BK620.out 0).trans rfl, (blk_cell BK620.out 1).trans rfl, (blk_cell BK621.out 0).trans rfl, (blk_cell BK621.out 1).trans rfl⟩ (fun hHeld => ?_)
   clear hK K
   refine norm_ (a' := ?_) ?_ ?_
   rotate_left
   ·show Act.put _ (some 9) _ = _
    simp only [Act.put, List.setIfInBounds_toArray, List.set_cons_zero, List.set_cons_succ, i64_w, i32_w]
    rfl
   refine pV 5 10 (tf 6 18) HT_ ?_
   refine pV 6 11 (tf 7 17) HT_ ?_
   refine pV 7 12 (tf 8 16) HT_ ?_
   refine pV 10 15 (tB 24 1279) HT_ ?_
   refine tV 8 13 (tB 24 1535) HT_ HW_ hHeld ?_
   refine pV 9 14 (tf 11 13) HT_ ?_
   refine tV 11 16 (tf 12 12) HT_ HW_ hHeld ?_
   refine pV 12 17 (tf 13 11) HT_ ?_
   refine pV 13 18 (tf 14 10) HT_ ?_
   refine pV 14 19 (tf 15 9) HT_ ?_
   refine pV 15 20 (tf 16 8) HT_ ?_
   refine pU 16 21 (tf 17 7) HT_ ?_
   refine pU 17 22 (tf 18 6) HT_ ?_
   refine pU 18 23 (tf 19 5) HT_ ?_
   refine pU 19 24 (tf 20 4) HT_ ?_
   refine pU 20 25 (tf 21 3) HT_ ?_
   refine pU 21 26 (tf 22 2) HT_ ?_
   refine pV 22 27 (tf 23 1) HT_ ?_
   refine pV 23 4 (tf 24 0) HT_ ?_
   refine done_ (done_of HT_.out (by kernel_rfl)) ?_
   try go_wp2
   go_ret
   exact ⟨eR, bP HB⟩
  rw [if_pos c7] at H
  have c7b0 : ((l0_0.length : Int) == (l1_0.length : Int)) = true := beq_iff_eq.mpr c7
  have c7b1 : ((l0_0.length : Int) != (l1_0.length : Int)) = false := bne_eq_false_iff_eq.mpr c7
  have c7b2 : (l0_0.length == l1_0.length) = true := by first | simpa using c7 | (simp at c7 ⊢; omega)
  clear c7
  obtain ⟨⟨t624, t627⟩, A80, H⟩ := Option.bind_eq_some_iff.mp H
  dsimp only at H
  have A8 := Aside0.mk A80
  clear A80
  obtain ⟨⟨t630, t633⟩, A90, H⟩ := Option.bind_eq_some_iff.mp H
  dsimp only at H
  have A9 := Aside0.mk A90
  clear A90
  obtain ⟨t636, A100, H⟩ := Option.bind_eq_some_iff.mp H
  have A10 := Aside0.mk A100
  clear A100
  obtain rfl := Option.some.inj H
  go_enter Try.func38, Try.ntmps38
  try go_wp2_with (first | ((with_reducible refine gate_dst (N := 2) rfl ?_); (try (refine gate_guard (by rfl) ?_; dsimp only)); refine bE 2 #[.slice A0_0 l0_0.length c0_0, .slice A0_1 l0_1.length c0_1] 40 ?_; intro gb620 hg w11 hbox hb; have BK620 := Aside0.mk (hbox); have GW620 := gS HB hg; have GE620 := gS HB hg; replace HB := bS HB hb; clear hb hbox hg) | ((with_reducible refine gate_dst (N := 3) rfl ?_); (try (refine gate_guard (by rfl) ?_; dsimp only)); refine bE 3 #[.slice A1_0 l1_0.length c1_0, .slice A1_1 l1_1.length c1_1] 40 ?_; intro gb621 hg w12 hbox hb; have BK621 := Aside0.mk (hbox); have GW621 := gS HB hg; have GE621 := gS HB hg; replace HB := bS HB hb; have NB620_621 := nL BK620 hg; have NB621_620 := nG BK620 hg; replace BK620 := kB BK620 hb; clear hb hbox hg))
  replace BK620 := Aside0.mk (blk_drew BK620.out)
  replace BK621 := Aside0.mk (blk_drew BK621.out)
  replace HB := Aside0.mk (below_drew1 HB.out)
  refine start_ (n := 24) (S := fun w' => w'.cell? ⟨gb620, 0, none⟩ = some (.slice A0_0 l0_0.length c0_0) ∧ w'.cell? ⟨gb620, 1, none⟩ = some (.slice A0_1 l0_1.length c0_1) ∧ w'.cell? ⟨gb621, 0, none⟩ = some (.slice A1_0 l1_0.length c1_0) ∧ w'.cell? ⟨gb621, 1, none⟩ = some (.slice A1_1 l1_1.length c1_1)) (ds := []) (tf 0 24) (by kernel_rfl) rfl rfl ⟨(blk_cell BK620.out 0).trans rfl, (blk_cell BK620.out 1).trans rfl, (blk_cell BK621.out 0).trans rfl, (blk_cell BK621.out 1).trans rfl⟩ (fun hHeld => ?_); refine with_tabW spec_MapSame.tab1 spec_MapSame.bits1 (fun HT_ HW_ => ?_)
  generalize w12.drew = w13 at BK620 BK621 HB hHeld ⊢
  refine tV 0 5 (tf 1 23) HT_ HW_ hHeld ?_
  refine eN 1 (some 6) (tf 2 22) HT_ (fun K hK => ?_)
  refine goes_ Try.func57 (by kernel_rfl) rfl #[.agg #[.slice A0_0 l0_0.length c0_0, .slice A0_1 l0_1.length c0_1]] (by rfl) rfl rfl (by (try simp only [List.map_toArray, List.map_cons, List.map_nil]); first | done | rfl | (simp only [List.length_drop, List.length_take]; rfl)) ?_
  with_reducible refine (spec_MapValid.calls k _ _ l0_0 _ _ l0_1 true _ ?side1 ?side2 ?side3 ?side4 A3.out).mono ?_
  (case side1 => exact cB HR0_0 HB)
  (case side2 => exact HC0_0.out)
  (case side3 => exact cB HR0_1 HB)
  (case side4 => exact HC0_1.out)
  rintro e w14 ⟨rfl, hb⟩
  refine ⟨_, rfl, ?_⟩
  replace BK620 := kB BK620 hb
  replace BK621 := kB BK621 hb
  replace HB := bS HB hb
  (try clear hb)
  (try clear hb2)
  (try clear hk)
  (try clear hi)
  refine hK.out _ _ ⟨(blk_cell BK620.out 0).trans rfl, (blk_cell BK620.out 1).trans rfl, (blk_cell BK621.out 0).trans rfl, (blk_cell BK621.out 1).trans rfl⟩ (fun hHeld => ?_)
  clear hK K
  refine norm_ (a' := ?_) ?_ ?_
  rotate_left
  ·show Act.put _ (some 6) _ = _
   simp only [Act.put, List.setIfInBounds_toArray, List.set_cons_zero, List.set_cons_succ, i64_w, i32_w]
   rfl
  refine pV 2 7 (tf 3 21) HT_ ?_
  refine tV 3 8 (tf 4 20) HT_ HW_ hHeld ?_
  refine eN 4 (some 9) (tf 5 19) HT_ (fun K hK => ?_)
  refine goes_ Try.func57 (by kernel_rfl) rfl #[.agg #[.slice A1_0 l1_0.length c1_0, .slice A1_1 l1_1.length c1_1]] (by rfl) rfl rfl (by (try simp only [List.map_toArray, List.map_cons, List.map_nil]); first | done | rfl | (simp only [List.length_drop, List.length_take]; rfl)) ?_
  with_reducible refine (spec_MapValid.calls k _ _ l1_0 _ _ l1_1 true _ ?side1 ?side2 ?side3 ?side4 A5.out).mono ?_
  (case side1 => exact cB HR1_0 HB)
  (case side2 => exact HC1_0.out)
  (case side3 => exact cB HR1_1 HB)
  (case side4 => exact HC1_1.out)
  rintro e w15 ⟨rfl, hb⟩
  refine ⟨_, rfl, ?_⟩
  replace BK620 := kB BK620 hb
  replace BK621 := kB BK621 hb
  replace HB := bS HB hb
  (try clear hb)
  (try clear hb2)
  (try clear hk)
  (try clear hi)
  refine hK.out _ _ ⟨(blk_cell BK620.out 0).trans rfl, (blk_cell BK620.out 1).trans rfl, (blk_cell BK621.out 0).trans rfl, (blk_cell BK621.out 1).trans rfl⟩ (fun hHeld => ?_)
  clear hK K
  refine norm_ (a' := ?_) ?_ ?_
  rotate_left
  ·show Act.put _ (some 9) _ = _
   simp only [Act.put, List.setIfInBounds_toArray, List.set_cons_zero, List.set_cons_succ, i64_w, i32_w]
   rfl
  refine pV 5 10 (tf 6 18) HT_ ?_
  refine pV 6 11 (tf 7 17) HT_ ?_
  refine pV 7 12 (tf 8 16) HT_ ?_
  refine pV 10 15 (tB 24 1279) HT_ ?_
  refine tV 8 13 (tB 24 1535) HT_ HW_ hHeld ?_
  refine pV 9 14 (tf 11 13) HT_ ?_
  refine tV 11 16 (tf 12 12) HT_ HW_ hHeld ?_
  refine pV 12 17 (tf 13 11) HT_ ?_
  refine pV 13 18 (tf 14 10) HT_ ?_
  refine pV 14 19 (tf 15 9) HT_ ?_
  refine pV 15 20 (tf 16 8) HT_ ?_
  refine tV 16 21 (tf 17 7) HT_ HW_ hHeld ?_
  refine tV 18 23 (tB 24 393215) HT_ HW_ hHeld ?_
  refine eN 17 (some 22) (tf 19 5) HT_ (fun K hK => ?_)
  refine goes_ Try.func68 (by kernel_rfl) rfl #[.agg #[.slice A0_0 l0_0.length c0_0, .slice A0_1 l0_1.length c0_1]] (by rfl) rfl rfl (by (try simp only [List.map_toArray, List.map_cons, List.map_nil]); first | done | rfl | (simp only [List.length_drop, List.length_take]; rfl)) ?_
  with_reducible refine (spec_l2Least.calls k _ _ l0_0 _ _ l0_1 t624 t627 _ ?side1 ?side2 ?side3 ?side4 A8.out).mono ?_
  (case side1 => exact cB HR0_0 HB)
  (case side2 => exact HC0_0.out)
  (case side3 => exact cB HR0_1 HB)
  (case side4 => exact HC0_1.out)
  rintro e w16 ⟨v625, v628, rfl, ho0, ho1, hb⟩
  refine ⟨_, rfl, ?_⟩
  have HO626 := rL ho0 HB
  have HO629 := rL ho1 HB
  replace BK620 := kB BK620 hb
  replace BK621 := kB BK621 hb
  replace HB := bS HB hb
  (try clear hb)
  (try clear hb2)
  (try clear hk)
  (try clear hi)
  (try clear ho0)
  (try clear ho1)
  refine hK.out _ _ ⟨(blk_cell BK620.out 0).trans rfl, (blk_cell BK620.out 1).trans rfl, (blk_cell BK621.out 0).trans rfl, (blk_cell BK621.out 1).trans rfl⟩ (fun hHeld => ?_)
  clear hK K
  refine norm_ (a' := ?_) ?_ ?_
  rotate_left
  ·show Act.put _ (some 22) _ = _
   simp only [Act.put, List.setIfInBounds_toArray, List.set_cons_zero, List.set_cons_succ, i64_w, i32_w]
   rfl
  refine eN 19 (some 24) (tf 20 4) HT_ (fun K hK => ?_)
  refine goes_ Try.func68 (by kernel_rfl) rfl #[.agg #[.slice A1_0 l1_0.length c1_0, .slice A1_1 l1_1.length c1_1]] (by rfl) rfl rfl (by (try simp only [List.map_toArray, List.map_cons, List.map_nil]); first | done | rfl | (simp only [List.length_drop, List.length_take]; rfl)) ?_
  with_reducible refine (spec_l2Least.calls k _ _ l1_0 _ _ l1_1 t630 t633 _ ?side1 ?side2 ?side3 ?side4 A9.out).mono ?_
  (case side1 => exact cB HR1_0 HB)
  (case side2 => exact HC1_0.out)
  (case side3 => exact cB HR1_1 HB)
  (case side4 => exact HC1_1.out)
  rintro e w17 ⟨v631, v634, rfl, ho0, ho1, hb⟩
  refine ⟨_, rfl, ?_⟩
  have HO632 := Aside0.mk (Kd.R_lower (Kd.R_new' (Kd.R_new' ho0 (Kd.R_lt (rP HO626))) (Kd.R_lt (rP HO629))) (below_size (bP HB)))
  have HO635 := Aside0.mk (Kd.R_lower (Kd.R_new' (Kd.R_new' ho1 (Kd.R_lt (rP HO626))) (Kd.R_lt (rP HO629))) (below_size (bP HB)))
  replace HO626 := Aside0.mk (Kd.R_mono (Kd.R_told (Kd.R_told (Kd.R_old (rP HO626) hb) (Kd.R_base ho0)) (Kd.R_base ho1)) (fun _ h_ => h_.1))
  replace HO629 := Aside0.mk (Kd.R_mono (Kd.R_told (Kd.R_told (Kd.R_old (rP HO629) hb) (Kd.R_base ho0)) (Kd.R_base ho1)) (fun _ h_ => h_.1))
  replace BK620 := kB BK620 hb
  replace BK621 := kB BK621 hb
  replace HB := bS HB hb
  (try clear hb)
  (try clear hb2)
  (try clear hk)
  (try clear hi)
  (try clear ho0)
  (try clear ho1)
  obtain ⟨Ao18, co18, eo18⟩ := Kd.R_slice HO626.out
  (first | subst eo18 | (injection eo18 with f1_ f2_ f3_; have f4_ := f1_.symm; have f5_ := f3_.symm; clear f1_ f2_ f3_; subst f4_; subst f5_))
  obtain ⟨Ao19, co19, eo19⟩ := Kd.R_slice HO629.out
  (first | subst eo19 | (injection eo19 with f1_ f2_ f3_; have f4_ := f1_.symm; have f5_ := f3_.symm; clear f1_ f2_ f3_; subst f4_; subst f5_))
  obtain ⟨Ao20, co20, eo20⟩ := Kd.R_slice HO632.out
  (first | subst eo20 | (injection eo20 with f1_ f2_ f3_; have f4_ := f1_.symm; have f5_ := f3_.symm; clear f1_ f2_ f3_; subst f4_; subst f5_))
  obtain ⟨Ao21, co21, eo21⟩ := Kd.R_slice HO635.out
  (first | subst eo21 | (injection eo21 with f1_ f2_ f3_; have f4_ := f1_.symm; have f5_ := f3_.symm; clear f1_ f2_ f3_; subst f4_; subst f5_))
  refine hK.out _ _ ⟨(blk_cell BK620.out 0).trans rfl, (blk_cell BK620.out 1).trans rfl, (blk_cell BK621.out 0).trans rfl, (blk_cell BK621.out 1).trans rfl⟩ (fun hHeld => ?_)
  clear hK K
  refine norm_ (a' := ?_) ?_ ?_
  rotate_left
  ·show Act.put _ (some 24) _ = _
   simp only [Act.put, List.setIfInBounds_toArray, List.set_cons_zero, List.set_cons_succ, i64_w, i32_w]
   rfl
  refine eN 20 (some 25) (tf 21 3) HT_ (fun K hK => ?_)
  refine goes_ Try.func67 (by kernel_rfl) rfl #[.agg #[.slice Ao18 t624.length co18, .slice Ao19 t627.length co19], .agg #[.slice Ao20 t630.length co20, .slice Ao21 t633.length co21]] (by rfl) rfl rfl (by (try simp only [List.map_toArray, List.map_cons, List.map_nil]); first | done | rfl | (simp only [List.length_drop, List.length_take]; rfl)) ?_
  with_reducible refine (spec_l2Before.calls k _ _ t624 _ _ t627 _ _ t630 _ _ t633 t636 _ ?side1 ?side2 ?side3 ?side4 ?side5 ?side6 ?side7 ?side8 A10.out).mono ?_
  (case side1 => exact cP (Kd.R_reads' HO626.out).2.2)
  (case side2 => exact (Kd.R_reads' HO626.out).2.1)
  (case side3 => exact cP (Kd.R_reads' HO629.out).2.2)
  (case side4 => exact (Kd.R_reads' HO629.out).2.1)
  (case side5 => exact cP (Kd.R_reads' HO632.out).2.2)
  (case side6 => exact (Kd.R_reads' HO632.out).2.1)
  (case side7 => exact cP (Kd.R_reads' HO635.out).2.2)
  (case side8 => exact (Kd.R_reads' HO635.out).2.1)
  rintro e w22 ⟨rfl, hb⟩
  refine ⟨_, rfl, ?_⟩
  replace HO626 := rB HO626 hb
  replace HO629 := rB HO629 hb
  replace HO632 := rB HO632 hb
  replace HO635 := rB HO635 hb
  replace BK620 := kB BK620 hb
  replace BK621 := kB BK621 hb
  replace HB := bS HB hb
  (try clear hb)
  (try clear hb2)
  (try clear hk)
  (try clear hi)
  refine hK.out _ _ ⟨(blk_cell BK620.out 0).trans rfl, (blk_cell BK620.out 1).trans rfl, (blk_cell BK621.out 0).trans rfl, (blk_cell BK621.out 1).trans rfl⟩ (fun hHeld => ?_)
  clear hK K
  refine norm_ (a' := ?_) ?_ ?_
  rotate_left
  ·show Act.put _ (some 25) _ = _
   simp only [Act.put, List.setIfInBounds_toArray, List.set_cons_zero, List.set_cons_succ, i64_w, i32_w]
   rfl
  refine pV 21 26 (tf 22 2) HT_ ?_
  refine pV 22 27 (tf 23 1) HT_ ?_
  refine pV 23 4 (tf 24 0) HT_ ?_
  refine done_ (done_of HT_.out (by kernel_rfl)) ?_
  try go_wp2
  go_ret
  exact ⟨eR, bP HB⟩
 ·replace c4 := Bool.eq_false_iff.mpr c4
  subst c4
  rw [iF] at H
  obtain rfl := Option.some.inj H
  go_enter Try.func38, Try.ntmps38
  try go_wp2_with (first | ((with_reducible refine gate_dst (N := 2) rfl ?_); (try (refine gate_guard (by rfl) ?_; dsimp only)); refine bE 2 #[.slice A0_0 l0_0.length c0_0, .slice A0_1 l0_1.length c0_1] 40 ?_; intro gb620 hg w33 hbox hb; have BK620 := Aside0.mk (hbox); have GW620 := gS HB hg; have GE620 := gS HB hg; replace HB := bS HB hb; clear hb hbox hg) | ((with_reducible refine gate_dst (N := 3) rfl ?_); (try (refine gate_guard (by rfl) ?_; dsimp only)); refine bE 3 #[.slice A1_0 l1_0.length c1_0, .slice A1_1 l1_1.length c1_1] 40 ?_; intro gb621 hg w34 hbox hb; have BK621 := Aside0.mk (hbox); have GW621 := gS HB hg; have GE621 := gS HB hg; replace HB := bS HB hb; have NB620_621 := nL BK620 hg; have NB621_620 := nG BK620 hg; replace BK620 := kB BK620 hb; clear hb hbox hg))
  replace BK620 := Aside0.mk (blk_drew BK620.out)
  replace BK621 := Aside0.mk (blk_drew BK621.out)
  replace HB := Aside0.mk (below_drew1 HB.out)
  refine start_ (n := 24) (S := fun w' => w'.cell? ⟨gb620, 0, none⟩ = some (.slice A0_0 l0_0.length c0_0) ∧ w'.cell? ⟨gb620, 1, none⟩ = some (.slice A0_1 l0_1.length c0_1)) (ds := []) (tf 0 24) (by kernel_rfl) rfl rfl ⟨(blk_cell BK620.out 0).trans rfl, (blk_cell BK620.out 1).trans rfl⟩ (fun hHeld => ?_); refine with_tabW spec_MapSame.tab1 spec_MapSame.bits1 (fun HT_ HW_ => ?_)
  generalize w34.drew = w35 at BK620 BK621 HB hHeld ⊢
  refine tV 0 5 (tf 1 23) HT_ HW_ hHeld ?_
  refine eN 1 (some 6) (tf 2 22) HT_ (fun K hK => ?_)
  refine goes_ Try.func57 (by kernel_rfl) rfl #[.agg #[.slice A0_0 l0_0.length c0_0, .slice A0_1 l0_1.length c0_1]] (by rfl) rfl rfl (by (try simp only [List.map_toArray, List.map_cons, List.map_nil]); first | done | rfl | (simp only [List.length_drop, List.length_take]; rfl)) ?_
  with_reducible refine (spec_MapValid.calls k _ _ l0_0 _ _ l0_1 false _ ?side1 ?side2 ?side3 ?side4 A3.out).mono ?_
  (case side1 => exact cB HR0_0 HB)
  (case side2 => exact HC0_0.out)
  (case side3 => exact cB HR0_1 HB)
  (case side4 => exact HC0_1.out)
  rintro e w36 ⟨rfl, hb⟩
  refine ⟨_, rfl, ?_⟩
  replace BK620 := kB BK620 hb
  replace BK621 := kB BK621 hb
  replace HB := bS HB hb
  (try clear hb)
  (try clear hb2)
  (try clear hk)
  (try clear hi)
  refine hK.out _ _ ⟨(blk_cell BK620.out 0).trans rfl, (blk_cell BK620.out 1).trans rfl⟩ (fun hHeld => ?_)
  clear hK K
  refine norm_ (a' := ?_) ?_ ?_
  rotate_left
  ·show Act.put _ (some 6) _ = _
   simp only [Act.put, List.setIfInBounds_toArray, List.set_cons_zero, List.set_cons_succ, i64_w, i32_w]
   rfl
  refine pV 2 7 (tf 3 21) HT_ ?_
  refine pU 3 8 (tf 4 20) HT_ ?_
  refine pU 4 9 (tf 5 19) HT_ ?_
  refine pV 5 10 (tf 6 18) HT_ ?_
  refine pV 6 11 (tf 7 17) HT_ ?_
  refine pU 7 12 (tf 8 16) HT_ ?_
  refine pU 8 13 (tf 9 15) HT_ ?_
  refine pU 9 14 (tf 10 14) HT_ ?_
  refine pU 10 15 (tf 11 13) HT_ ?_
  refine pU 11 16 (tf 12 12) HT_ ?_
  refine pU 12 17 (tf 13 11) HT_ ?_
  refine pU 13 18 (tf 14 10) HT_ ?_
  refine pV 14 19 (tf 15 9) HT_ ?_
  refine pV 15 20 (tf 16 8) HT_ ?_
  refine pU 16 21 (tf 17 7) HT_ ?_
  refine pU 17 22 (tf 18 6) HT_ ?_
  refine pU 18 23 (tf 19 5) HT_ ?_
  refine pU 19 24 (tf 20 4) HT_ ?_
  refine pU 20 25 (tf 21 3) HT_ ?_
  refine pU 21 26 (tf 22 2) HT_ ?_
  refine pV 22 27 (tf 23 1) HT_ ?_
  refine pV 23 4 (tf 24 0) HT_ ?_
  refine done_ (done_of HT_.out (by kernel_rfl)) ?_
  try go_wp2
  go_ret
  exact ⟨eR, bP HB⟩

end Go.Proofs.Yteffimfifgnleaa.F
