/- Contracts: what these Go functions return. -/
import Derived.Test.YtjnbbnaidjodlaaF0
import Derived.Test.YtjnbbnaidjodlaaF7
import Derived.Test.YtjnbbnaidjodlaaF22
import Derived.Test.YtjnbbnaidjodlaaF26
namespace Go.Proofs.Ytjnbbnaidjodlaa.F
open Go.RowKit Go.Proofs.YtjnbbnaidjodlaaW.PrintWords Go.Proofs.YtjnbbnaidjodlaaW.PrintLast Go.Proofs.YtjnbbnaidjodlaaW.PrintMore
attribute [local go_sem] max2_int min2_int max_two min_two max_three min_three max_four min_four
set_option linter.unusedVariables false
set_option linter.unusedSimpArgs false

/-! ### spec_MapTurns: function 6 -/
def spec_MapTurns.l0 : Nat → Int → Int → List Int → List Int → Option (Int)
 | 0, _, _, _, _ => none
 | k + 1, x3, x4, x415000, x415001 => if x4 < (x415000.length : Int) then ((spec_l2Form.f k x415000 x415001 x4).bind fun bt416 => ((spec_l2Form.f k x415000 x415001 0).bind fun bt422 => ((spec_l2Before.f k bt416.1 bt416.2 bt422.1 bt422.2).bind fun t428 => (if t428 = 0 then (spec_MapTurns.l0 k (wrap64 (x3 + 1)) (wrap64 (x4 + 1)) x415000 x415001) else (spec_MapTurns.l0 k x3 (wrap64 (x4 + 1)) x415000 x415001))))) else (some x3)
def spec_MapTurns.f (k : Nat) (l0_0 : List Int) (l0_1 : List Int) : Option (Int) := (spec_MapValid.f k l0_0 l0_1).bind fun t415 => (if t415 = true then (spec_MapTurns.l0 k 0 0 l0_0 l0_1) else (some (-1)))
set_option maxHeartbeats 8000000 in
set_option maxRecDepth 100000 in
theorem spec_MapTurns.calls (k : Nat) (A0_0 : Option Addr) (c0_0 : Nat) (l0_0 : List Int) (A0_1 : Option Addr) (c0_1 : Nat) (l0_1 : List Int) (r : Int) (w : World) (hr0_0 : Kd.C (Kd.int .i64) w A0_0 l0_0.length l0_0) (hc0_0 : l0_0.length ≤ c0_0) (hr0_1 : Kd.C (Kd.int .i64) w A0_1 l0_1.length l0_1) (hc0_1 : l0_1.length ≤ c0_1) (h : spec_MapTurns.f k l0_0 l0_1 = some r) :
 Calls Try.prog 6 #[.agg #[.slice A0_0 l0_0.length c0_0, .slice A0_1 l0_1.length c0_1]] w fun e w' => e = .returned (.int .i64 r) ∧ Below w.heap.size w w' := by
 have hu25 := Try.underlying25
 have HR0_0 := Aside0.mk hr0_0
 have HC0_0 := Aside0.mk hc0_0
 clear hr0_0 hc0_0
 have HR0_1 := Aside0.mk hr0_1
 have HC0_1 := Aside0.mk hc0_1
 clear hr0_1 hc0_1
 have HB := Aside0.mk (Below.refl w.heap.size w)
 have H : ((spec_MapValid.f k l0_0 l0_1).bind fun t415 => (if t415 = true then (spec_MapTurns.l0 k 0 0 l0_0 l0_1) else (some (-1)))) = some r := h
 clear h
 obtain ⟨t415, A20, H⟩ := Option.bind_eq_some_iff.mp H
 have A2 := Aside0.mk A20
 clear A20
 by_cases c3 : t415 = true
 ·subst c3
  rw [if_pos rfl] at H
  have H' := Aside0.mk H
  clear H
  go_enter Try.func6, Try.ntmps6
  go_wp2_with (first | ((with_reducible refine gate_dst (N := 1) rfl ?_); refine bE 1 #[.slice A0_0 l0_0.length c0_0, .slice A0_1 l0_1.length c0_1] 25 ?_; intro gb414 hg w4 hbox hb; have BK414 := Aside0.mk (hbox); have GW414 := gS HB hg; have GE414 := gS HB hg; replace HB := bS HB hb; clear hb hbox hg; have hcz5_0 := zc0 BK414; have hcz5_1 := zc1 BK414; have hfz5_0 := blk_frozen BK414.out 0; have hfz5_1 := blk_frozen BK414.out 1) | ((with_reducible refine gate_callee (f := 17) rfl ?_); refine gL (some 6) Try.func17 #[.agg #[.slice A0_0 l0_0.length c0_0, .slice A0_1 l0_1.length c0_1]] ?_; (with_reducible refine (spec_MapValid.calls k _ _ l0_0 _ _ l0_1 true _ ?side1 ?side2 ?side3 ?side4 A2.out).mono ?_); (case side1 => exact cB HR0_0 HB); (case side2 => exact HC0_0.out); (case side3 => exact cB HR0_1 HB); (case side4 => exact HC0_1.out); rintro e w6 ⟨rfl, hb⟩; refine ⟨_, rfl, ?_⟩; replace BK414 := kB BK414 hb; replace HB := bS HB hb; (try clear hb); (try clear hb2); (try clear hk); (try clear hi)))
  go_loopg [3, 4] k (fun kq v3 v4 w' => ∃ (x3_1 : Int) (x4_1 : Int), v3 = .int .i64 x3_1 ∧ v4 = .int .i64 x4_1 ∧ Aside0 (spec_MapTurns.l0 kq x3_1 x4_1 l0_0 l0_1 = some r) ∧ Aside0 (kq ≤ k) ∧ Aside0 (w'.heap[gb414]? = some (.cells #[(.slice A0_0 l0_0.length c0_0), (.slice A0_1 l0_1.length c0_1)] 25 (0, 0))) ∧ Aside0 (Below w.heap.size w w'))
  case atStart => exact ⟨(0), (0), eS, eS, H', ⟨Nat.le_refl _⟩, ⟨kP BK414⟩, ⟨bP HB⟩⟩
  case round =>
   clear H'
   try clear c1
   try clear p2
   try clear c3
   try clear c6
   try clear hcz5_0
   try clear hcz5_1
   try clear hfz5_0
   try clear hfz5_1
   obtain ⟨x3_1, x4_1, rfl, rfl, HA, HK1, BK414, HB⟩ := hrel
   cases gk with
   | zero => exact absurd HA.out (by simp [spec_MapTurns.l0])
   | succ k1 =>
    have H := HA.out
    clear HA
    simp only [spec_MapTurns.l0] at H
    by_cases c7 : x4_1 < (l0_0.length : Int)
    case neg =>
     rw [if_neg c7] at H
     have c7b0 : decide (x4_1 < (l0_0.length : Int)) = false := decide_eq_false c7
     clear c7
     obtain rfl := Option.some.inj H
     have hcz30_0 := zc0 BK414
     have hcz30_1 := zc1 BK414
     have hfz30_0 := blk_frozen BK414.out 0
     have hfz30_1 := blk_frozen BK414.out 1
     go_wp2
     go_ret
     exact ⟨eR, bP HB⟩
    rw [if_pos c7] at H
    have c7b0 : decide (x4_1 < (l0_0.length : Int)) = true := decide_eq_true c7
    clear c7
    obtain ⟨⟨t416, t419⟩, A80, H⟩ := Option.bind_eq_some_iff.mp H
    dsimp only at H
    have A8 := Aside0.mk A80
    clear A80
    obtain ⟨⟨t422, t425⟩, A90, H⟩ := Option.bind_eq_some_iff.mp H
    dsimp only at H
    have A9 := Aside0.mk A90
    clear A90
    obtain ⟨t428, A100, H⟩ := Option.bind_eq_some_iff.mp H
    have A10 := Aside0.mk A100
    clear A100
    by_cases c11 : t428 = 0
    case neg =>
     rw [if_neg c11] at H
     have c11b0 : (t428 == 0) = false := beq_eq_false_iff_ne.mpr c11
     have c11b1 : (t428 != 0) = true := bne_iff_ne.mpr c11
     have H' := Aside0.mk H
     clear H
     have hcz21_0 := zc0 BK414
     have hcz21_1 := zc1 BK414
     have hfz21_0 := blk_frozen BK414.out 0
     have hfz21_1 := blk_frozen BK414.out 1
     try go_wp2
     replace BK414 := Aside0.mk (blk_drew BK414.out)
     replace HB := Aside0.mk (below_drew1 HB.out)
     refine start_ (n := 7) (S := fun w' => w'.cell? ⟨gb414, 0, none⟩ = some (.slice A0_0 l0_0.length c0_0) ∧ w'.cell? ⟨gb414, 1, none⟩ = some (.slice A0_1 l0_1.length c0_1)) (ds := []) (tf 0 7) (by kernel_rfl) rfl rfl ⟨(blk_cell BK414.out 0).trans rfl, (blk_cell BK414.out 1).trans rfl⟩ (fun hHeld => ?_)
     generalize wr.drew = w22 at BK414 HB hHeld ⊢
     refine pK 1 16 (tB 7 2) ?_
     refine tK 0 15 (tf 2 5) hHeld ?_
     refine tK 3 18 (tB 7 11) hHeld ?_
     refine one_ (i := 2) (N := some 17) (tf 4 3) rfl rfl (by kernel_rfl) (by decide) (fun K hK => ?_)
     refine goes_ Try.func19 (by kernel_rfl) rfl #[.agg #[.slice A0_0 l0_0.length c0_0, .slice A0_1 l0_1.length c0_1], .int .i64 x4_1] (by rfl) rfl rfl (by (try simp only [List.map_toArray, List.map_cons, List.map_nil]); first | done | rfl | (simp only [List.length_drop, List.length_take]; rfl)) ?_
     with_reducible refine (spec_l2Form.calls k1 _ _ l0_0 _ _ l0_1 x4_1 t416 t419 _ ?side1 ?side2 ?side3 ?side4 A8.out).mono ?_
     (case side1 => exact cB HR0_0 HB)
     (case side2 => exact HC0_0.out)
     (case side3 => exact cB HR0_1 HB)
     (case side4 => exact HC0_1.out)
     rintro e w23 ⟨v417, v420, rfl, ho0, ho1, hb⟩
     refine ⟨_, rfl, ?_⟩
     have HO418 := rL ho0 HB
     have HO421 := rL ho1 HB
     replace BK414 := kB BK414 hb
     replace HB := bS HB hb
     (try clear hb)
     (try clear hb2)
     (try clear hk)
     (try clear hi)
     (try clear ho0)
     (try clear ho1)
     refine hK.out _ _ ⟨(blk_cell BK414.out 0).trans rfl, (blk_cell BK414.out 1).trans rfl⟩ (fun hHeld => ?_)
     clear hK K
     refine norm_ (a' := ?_) ?_ ?_
     rotate_left
     ·show Act.put _ (some 17) _ = _
      simp only [Act.put, List.setIfInBounds_toArray, List.set_cons_zero, List.set_cons_succ, i64_w, i32_w]
      rfl
     refine one_ (i := 4) (N := some 19) (tf 5 2) rfl rfl (by kernel_rfl) (by decide) (fun K hK => ?_)
     refine goes_ Try.func19 (by kernel_rfl) rfl #[.agg #[.slice A0_0 l0_0.length c0_0, .slice A0_1 l0_1.length c0_1], .int .i64 0] (by rfl) rfl rfl (by (try simp only [List.map_toArray, List.map_cons, List.map_nil]); first | done | rfl | (simp only [List.length_drop, List.length_take]; rfl)) ?_
     with_reducible refine (spec_l2Form.calls k1 _ _ l0_0 _ _ l0_1 0 t422 t425 _ ?side1 ?side2 ?side3 ?side4 A9.out).mono ?_
     (case side1 => exact cB HR0_0 HB)
     (case side2 => exact HC0_0.out)
     (case side3 => exact cB HR0_1 HB)
     (case side4 => exact HC0_1.out)
     rintro e w24 ⟨v423, v426, rfl, ho0, ho1, hb⟩
     refine ⟨_, rfl, ?_⟩
     have HO424 := Aside0.mk (Kd.R_lower (Kd.R_new' (Kd.R_new' ho0 (Kd.R_lt (rP HO418))) (Kd.R_lt (rP HO421))) (below_size (bP HB)))
     have HO427 := Aside0.mk (Kd.R_lower (Kd.R_new' (Kd.R_new' ho1 (Kd.R_lt (rP HO418))) (Kd.R_lt (rP HO421))) (below_size (bP HB)))
     replace HO418 := Aside0.mk (Kd.R_mono (Kd.R_told (Kd.R_told (Kd.R_old (rP HO418) hb) (Kd.R_base ho0)) (Kd.R_base ho1)) (fun _ h_ => h_.1))
     replace HO421 := Aside0.mk (Kd.R_mono (Kd.R_told (Kd.R_told (Kd.R_old (rP HO421) hb) (Kd.R_base ho0)) (Kd.R_base ho1)) (fun _ h_ => h_.1))
     replace BK414 := kB BK414 hb
     replace HB := bS HB hb
     (try clear hb)
     (try clear hb2)
     (try clear hk)
     (try clear hi)
     (try clear ho0)
     (try clear ho1)
     obtain ⟨Ao25, co25, eo25⟩ := Kd.R_slice HO418.out
     (first | subst eo25 | (injection eo25 with f1_ f2_ f3_; have f4_ := f1_.symm; have f5_ := f3_.symm; clear f1_ f2_ f3_; subst f4_; subst f5_))
     obtain ⟨Ao26, co26, eo26⟩ := Kd.R_slice HO421.out
     (first | subst eo26 | (injection eo26 with f1_ f2_ f3_; have f4_ := f1_.symm; have f5_ := f3_.symm; clear f1_ f2_ f3_; subst f4_; subst f5_))
     obtain ⟨Ao27, co27, eo27⟩ := Kd.R_slice HO424.out
     (first | subst eo27 | (injection eo27 with f1_ f2_ f3_; have f4_ := f1_.symm; have f5_ := f3_.symm; clear f1_ f2_ f3_; subst f4_; subst f5_))
     obtain ⟨Ao28, co28, eo28⟩ := Kd.R_slice HO427.out
     (first | subst eo28 | (injection eo28 with f1_ f2_ f3_; have f4_ := f1_.symm; have f5_ := f3_.symm; clear f1_ f2_ f3_; subst f4_; subst f5_))
     refine hK.out _ _ ⟨(blk_cell BK414.out 0).trans rfl, (blk_cell BK414.out 1).trans rfl⟩ (fun hHeld => ?_)
     clear hK K
     refine norm_ (a' := ?_) ?_ ?_
     rotate_left
     ·show Act.put _ (some 19) _ = _
      simp only [Act.put, List.setIfInBounds_toArray, List.set_cons_zero, List.set_cons_succ, i64_w, i32_w]
      rfl
     refine one_ (i := 5) (N := some 20) (tf 6 1) rfl rfl (by kernel_rfl) (by decide) (fun K hK => ?_)
     refine goes_ Try.func18 (by kernel_rfl) rfl #[.agg #[.slice Ao25 t416.length co25, .slice Ao26 t419.length co26], .agg #[.slice Ao27 t422.length co27, .slice Ao28 t425.length co28]] (by rfl) rfl rfl (by (try simp only [List.map_toArray, List.map_cons, List.map_nil]); first | done | rfl | (simp only [List.length_drop, List.length_take]; rfl)) ?_
     with_reducible refine (spec_l2Before.calls k1 _ _ t416 _ _ t419 _ _ t422 _ _ t425 t428 _ ?side1 ?side2 ?side3 ?side4 ?side5 ?side6 ?side7 ?side8 A10.out).mono ?_
     (case side1 => exact cP (Kd.R_reads' HO418.out).2.2)
     (case side2 => exact (Kd.R_reads' HO418.out).2.1)
     (case side3 => exact cP (Kd.R_reads' HO421.out).2.2)
     (case side4 => exact (Kd.R_reads' HO421.out).2.1)
     (case side5 => exact cP (Kd.R_reads' HO424.out).2.2)
     (case side6 => exact (Kd.R_reads' HO424.out).2.1)
     (case side7 => exact cP (Kd.R_reads' HO427.out).2.2)
     (case side8 => exact (Kd.R_reads' HO427.out).2.1)
     rintro e w29 ⟨rfl, hb⟩
     refine ⟨_, rfl, ?_⟩
     replace HO418 := rB HO418 hb
     replace HO421 := rB HO421 hb
     replace HO424 := rB HO424 hb
     replace HO427 := rB HO427 hb
     replace BK414 := kB BK414 hb
     replace HB := bS HB hb
     (try clear hb)
     (try clear hb2)
     (try clear hk)
     (try clear hi)
     refine hK.out _ _ ⟨(blk_cell BK414.out 0).trans rfl, (blk_cell BK414.out 1).trans rfl⟩ (fun hHeld => ?_)
     clear hK K
     refine norm_ (a' := ?_) ?_ ?_
     rotate_left
     ·show Act.put _ (some 20) _ = _
      simp only [Act.put, List.setIfInBounds_toArray, List.set_cons_zero, List.set_cons_succ, i64_w, i32_w]
      rfl
     refine pK 6 21 (tf 7 0) ?_
     refine done_ (by kernel_rfl) ?_
     try go_wp2
     go_roundg k1
     case measure => have := HK1.out; omega
     case rel => exact ⟨(x3_1), (wrap64 (x4_1 + 1)), eS, eS, H', ⟨by have := HK1.out; omega⟩, ⟨kP BK414⟩, ⟨bP HB⟩⟩
    rw [if_pos c11] at H
    have c11b0 : (t428 == 0) = true := beq_iff_eq.mpr c11
    have c11b1 : (t428 != 0) = false := bne_eq_false_iff_eq.mpr c11
    clear c11
    have H' := Aside0.mk H
    clear H
    have hcz12_0 := zc0 BK414
    have hcz12_1 := zc1 BK414
    have hfz12_0 := blk_frozen BK414.out 0
    have hfz12_1 := blk_frozen BK414.out 1
    try go_wp2
    replace BK414 := Aside0.mk (blk_drew BK414.out)
    replace HB := Aside0.mk (below_drew1 HB.out)
    refine start_ (n := 7) (S := fun w' => w'.cell? ⟨gb414, 0, none⟩ = some (.slice A0_0 l0_0.length c0_0) ∧ w'.cell? ⟨gb414, 1, none⟩ = some (.slice A0_1 l0_1.length c0_1)) (ds := []) (tf 0 7) (by kernel_rfl) rfl rfl ⟨(blk_cell BK414.out 0).trans rfl, (blk_cell BK414.out 1).trans rfl⟩ (fun hHeld => ?_)
    generalize wr.drew = w13 at BK414 HB hHeld ⊢
    refine pK 1 16 (tB 7 2) ?_
    refine tK 0 15 (tf 2 5) hHeld ?_
    refine tK 3 18 (tB 7 11) hHeld ?_
    refine one_ (i := 2) (N := some 17) (tf 4 3) rfl rfl (by kernel_rfl) (by decide) (fun K hK => ?_)
    refine goes_ Try.func19 (by kernel_rfl) rfl #[.agg #[.slice A0_0 l0_0.length c0_0, .slice A0_1 l0_1.length c0_1], .int .i64 x4_1] (by rfl) rfl rfl (by (try simp only [List.map_toArray, List.map_cons, List.map_nil]); first | done | rfl | (simp only [List.length_drop, List.length_take]; rfl)) ?_
    with_reducible refine (spec_l2Form.calls k1 _ _ l0_0 _ _ l0_1 x4_1 t416 t419 _ ?side1 ?side2 ?side3 ?side4 A8.out).mono ?_
    (case side1 => exact cB HR0_0 HB)
    (case side2 => exact HC0_0.out)
    (case side3 => exact cB HR0_1 HB)
    (case side4 => exact HC0_1.out)
    rintro e w14 ⟨v417, v420, rfl, ho0, ho1, hb⟩
    refine ⟨_, rfl, ?_⟩
    have HO418 := rL ho0 HB
    have HO421 := rL ho1 HB
    replace BK414 := kB BK414 hb
    replace HB := bS HB hb
    (try clear hb)
    (try clear hb2)
    (try clear hk)
    (try clear hi)
    (try clear ho0)
    (try clear ho1)
    refine hK.out _ _ ⟨(blk_cell BK414.out 0).trans rfl, (blk_cell BK414.out 1).trans rfl⟩ (fun hHeld => ?_)
    clear hK K
    refine norm_ (a' := ?_) ?_ ?_
    rotate_left
    ·show Act.put _ (some 17) _ = _
     simp only [Act.put, List.setIfInBounds_toArray, List.set_cons_zero, List.set_cons_succ, i64_w, i32_w]
     rfl
    refine one_ (i := 4) (N := some 19) (tf 5 2) rfl rfl (by kernel_rfl) (by decide) (fun K hK => ?_)
    refine goes_ Try.func19 (by kernel_rfl) rfl #[.agg #[.slice A0_0 l0_0.length c0_0, .slice A0_1 l0_1.length c0_1], .int .i64 0] (by rfl) rfl rfl (by (try simp only [List.map_toArray, List.map_cons, List.map_nil]); first | done | rfl | (simp only [List.length_drop, List.length_take]; rfl)) ?_
    with_reducible refine (spec_l2Form.calls k1 _ _ l0_0 _ _ l0_1 0 t422 t425 _ ?side1 ?side2 ?side3 ?side4 A9.out).mono ?_
    (case side1 => exact cB HR0_0 HB)
    (case side2 => exact HC0_0.out)
    (case side3 => exact cB HR0_1 HB)
    (case side4 => exact HC0_1.out)
    rintro e w15 ⟨v423, v426, rfl, ho0, ho1, hb⟩
    refine ⟨_, rfl, ?_⟩
    have HO424 := Aside0.mk (Kd.R_lower (Kd.R_new' (Kd.R_new' ho0 (Kd.R_lt (rP HO418))) (Kd.R_lt (rP HO421))) (below_size (bP HB)))
    have HO427 := Aside0.mk (Kd.R_lower (Kd.R_new' (Kd.R_new' ho1 (Kd.R_lt (rP HO418))) (Kd.R_lt (rP HO421))) (below_size (bP HB)))
    replace HO418 := Aside0.mk (Kd.R_mono (Kd.R_told (Kd.R_told (Kd.R_old (rP HO418) hb) (Kd.R_base ho0)) (Kd.R_base ho1)) (fun _ h_ => h_.1))
    replace HO421 := Aside0.mk (Kd.R_mono (Kd.R_told (Kd.R_told (Kd.R_old (rP HO421) hb) (Kd.R_base ho0)) (Kd.R_base ho1)) (fun _ h_ => h_.1))
    replace BK414 := kB BK414 hb
    replace HB := bS HB hb
    (try clear hb)
    (try clear hb2)
    (try clear hk)
    (try clear hi)
    (try clear ho0)
    (try clear ho1)
    obtain ⟨Ao16, co16, eo16⟩ := Kd.R_slice HO418.out
    (first | subst eo16 | (injection eo16 with f1_ f2_ f3_; have f4_ := f1_.symm; have f5_ := f3_.symm; clear f1_ f2_ f3_; subst f4_; subst f5_))
    obtain ⟨Ao17, co17, eo17⟩ := Kd.R_slice HO421.out
    (first | subst eo17 | (injection eo17 with f1_ f2_ f3_; have f4_ := f1_.symm; have f5_ := f3_.symm; clear f1_ f2_ f3_; subst f4_; subst f5_))
    obtain ⟨Ao18, co18, eo18⟩ := Kd.R_slice HO424.out
    (first | subst eo18 | (injection eo18 with f1_ f2_ f3_; have f4_ := f1_.symm; have f5_ := f3_.symm; clear f1_ f2_ f3_; subst f4_; subst f5_))
    obtain ⟨Ao19, co19, eo19⟩ := Kd.R_slice HO427.out
    (first | subst eo19 | (injection eo19 with f1_ f2_ f3_; have f4_ := f1_.symm; have f5_ := f3_.symm; clear f1_ f2_ f3_; subst f4_; subst f5_))
    refine hK.out _ _ ⟨(blk_cell BK414.out 0).trans rfl, (blk_cell BK414.out 1).trans rfl⟩ (fun hHeld => ?_)
    clear hK K
    refine norm_ (a' := ?_) ?_ ?_
    rotate_left
    ·show Act.put _ (some 19) _ = _
     simp only [Act.put, List.setIfInBounds_toArray, List.set_cons_zero, List.set_cons_succ, i64_w, i32_w]
     rfl
    refine one_ (i := 5) (N := some 20) (tf 6 1) rfl rfl (by kernel_rfl) (by decide) (fun K hK => ?_)
    refine goes_ Try.func18 (by kernel_rfl) rfl #[.agg #[.slice Ao16 t416.length co16, .slice Ao17 t419.length co17], .agg #[.slice Ao18 t422.length co18, .slice Ao19 t425.length co19]] (by rfl) rfl rfl (by (try simp only [List.map_toArray, List.map_cons, List.map_nil]); first | done | rfl | (simp only [List.length_drop, List.length_take]; rfl)) ?_
    with_reducible refine (spec_l2Before.calls k1 _ _ t416 _ _ t419 _ _ t422 _ _ t425 t428 _ ?side1 ?side2 ?side3 ?side4 ?side5 ?side6 ?side7 ?side8 A10.out).mono ?_
    (case side1 => exact cP (Kd.R_reads' HO418.out).2.2)
    (case side2 => exact (Kd.R_reads' HO418.out).2.1)
    (case side3 => exact cP (Kd.R_reads' HO421.out).2.2)
    (case side4 => exact (Kd.R_reads' HO421.out).2.1)
    (case side5 => exact cP (Kd.R_reads' HO424.out).2.2)
    (case side6 => exact (Kd.R_reads' HO424.out).2.1)
    (case side7 => exact cP (Kd.R_reads' HO427.out).2.2)
    (case side8 => exact (Kd.R_reads' HO427.out).2.1)
    rintro e w20 ⟨rfl, hb⟩
    refine ⟨_, rfl, ?_⟩
    replace HO418 := rB HO418 hb
    replace HO421 := rB HO421 hb
    replace HO424 := rB HO424 hb
    replace HO427 := rB HO427 hb
    replace BK414 := kB BK414 hb
    replace HB := bS HB hb
    (try clear hb)
    (try clear hb2)
    (try clear hk)
    (try clear hi)
    refine hK.out _ _ ⟨(blk_cell BK414.out 0).trans rfl, (blk_cell BK414.out 1).trans rfl⟩ (fun hHeld => ?_)
    clear hK K
    refine norm_ (a' := ?_) ?_ ?_
    rotate_left
    ·show Act.put _ (some 20) _ = _
     simp only [Act.put, List.setIfInBounds_toArray, List.set_cons_zero, List.set_cons_succ, i64_w, i32_w]
     rfl
    refine pK 6 21 (tf 7 0) ?_
    refine done_ (by kernel_rfl) ?_
    try go_wp2
    go_roundg k1
    case measure => have := HK1.out; omega
    case rel => exact ⟨(wrap64 (x3_1 + 1)), (wrap64 (x4_1 + 1)), eS, eS, H', ⟨by have := HK1.out; omega⟩, ⟨kP BK414⟩, ⟨bP HB⟩⟩
 ·replace c3 := Bool.eq_false_iff.mpr c3
  subst c3
  rw [iF] at H
  obtain rfl := Option.some.inj H
  go_enter Try.func6, Try.ntmps6
  go_wp2_with (first | ((with_reducible refine gate_dst (N := 1) rfl ?_); refine bE 1 #[.slice A0_0 l0_0.length c0_0, .slice A0_1 l0_1.length c0_1] 25 ?_; intro gb414 hg w31 hbox hb; have BK414 := Aside0.mk (hbox); have GW414 := gS HB hg; have GE414 := gS HB hg; replace HB := bS HB hb; clear hb hbox hg; have hcz32_0 := zc0 BK414; have hcz32_1 := zc1 BK414; have hfz32_0 := blk_frozen BK414.out 0; have hfz32_1 := blk_frozen BK414.out 1) | ((with_reducible refine gate_callee (f := 17) rfl ?_); refine gL (some 6) Try.func17 #[.agg #[.slice A0_0 l0_0.length c0_0, .slice A0_1 l0_1.length c0_1]] ?_; (with_reducible refine (spec_MapValid.calls k _ _ l0_0 _ _ l0_1 false _ ?side1 ?side2 ?side3 ?side4 A2.out).mono ?_); (case side1 => exact cB HR0_0 HB); (case side2 => exact HC0_0.out); (case side3 => exact cB HR0_1 HB); (case side4 => exact HC0_1.out); rintro e w33 ⟨rfl, hb⟩; refine ⟨_, rfl, ?_⟩; replace BK414 := kB BK414 hb; replace HB := bS HB hb; (try clear hb); (try clear hb2); (try clear hk); (try clear hi)))
  go_ret
  exact ⟨eR, bP HB⟩

end Go.Proofs.Ytjnbbnaidjodlaa.F
