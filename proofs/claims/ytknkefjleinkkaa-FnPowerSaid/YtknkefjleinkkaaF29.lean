/- Contracts: what each of these Go functions returns, for every argument, whenever its Lean function of the same name answers; written by this session's program over the kit's print. -/
import Derived.Test.YtknkefjleinkkaaF0
import Derived.Test.YtknkefjleinkkaaF1
import Derived.Test.YtknkefjleinkkaaF2
import Derived.Test.YtknkefjleinkkaaF3
namespace Go.Proofs.Ytknkefjleinkkaa.F
open Go.RowKit Go.Proofs.YtknkefjleinkkaaW.PrintWords Go.Proofs.YtknkefjleinkkaaW.PrintLast Go.Proofs.YtknkefjleinkkaaW.PrintMore
attribute [local go_sem] max2_int min2_int max_two min_two max_three min_three max_four min_four   -- for this text's walks alone
set_option linter.unusedVariables false
set_option linter.unusedSimpArgs false

/-! ### spec_DrawPermPower: function 31 -/
def spec_DrawPermPower.f (k : Nat) (l0 : List Int) : Option (List Int × Int) := (spec_l6Open.f l0).bind fun bt577 => ((spec_l91Some.f k bt577.1 bt577.2 8).bind fun bt580 => ((spec_l6Rd_pick.f k bt577.1 bt580.2 16).bind fun bt584 => (if bt584.1 = 0 then ((some (([1001, (-1001), (-9223372036854775808), 1000] : List Int) : List Int)).bind fun y586 => ((spec_l6Rd_pick.f k bt577.1 bt584.2 4).bind fun bt589 => (if 0 ≤ bt589.1 then (if bt589.1 < (y586.length : Int) then (some (bt580.1, rd y586 bt589.1)) else (none)) else (none)))) else ((spec_l6Rd_pick.f k bt577.1 bt584.2 31).bind fun bt592 => (some (bt580.1, wrap64 (bt592.1 - 10)))))))
theorem spec_DrawPermPower.mono : ∀ a0 k, LeO (spec_DrawPermPower.f k a0) (spec_DrawPermPower.f (k + 1) a0) := by
  intro a0 k
  unfold spec_DrawPermPower.f
  repeat' first
      | (with_reducible exact spec_l6Rd_pick.mono _ _ _ _)
      | (with_reducible exact spec_l91Some.mono _ _ _ _)
      | (with_reducible exact LeO.refl _)
      | (with_reducible exact LeO.none _)
      | (with_reducible refine LeO.ite ?_ ?_)
      | (with_reducible refine LeO.bind ?_ (fun _ => ?_))
      | exact spec_l6Rd_pick.mono _ _ _ _
      | exact spec_l91Some.mono _ _ _ _
      | exact LeO.none _
      | refine LeO.ite ?_ ?_
      | refine LeO.bind ?_ (fun _ => ?_)
def spec_DrawPermPower.T4 : Bool × List (List Nat × List Nat) := (true, [([], []), ([], []), ([], []), ([2], [2]), ([1, 3], [1, 3]), ([4], [4]), ([0, 3, 0], [0]), ([5, 6, 0, 1, 2, 3, 4, 5, 6], [5])])
def spec_DrawPermPower.B4 : List Nat := [0, 0, 0, 4, 14, 30, 13, 127]
theorem spec_DrawPermPower.tab4 : rtab .any (opsOf Try.f31 4) = spec_DrawPermPower.T4 := by kernel_rfl
theorem spec_DrawPermPower.bits4 : waitsOk spec_DrawPermPower.T4.2 spec_DrawPermPower.B4 = true := by kernel_rfl
set_option maxHeartbeats 8000000 in
set_option maxRecDepth 100000 in
theorem spec_DrawPermPower.calls (k : Nat) (A0 : Option Addr) (c0 : Nat) (l0 : List Int) (r1 : List Int) (r2 : Int) (w : World) (hr0 : Kd.C (Kd.int .u8) w A0 l0.length l0) (hc0 : l0.length ≤ c0) (h : spec_DrawPermPower.f k l0 = some (r1, r2)) :
    Calls Try.prog 31 #[.slice A0 l0.length c0] w fun e w' => ∃ v0_ : Value, e = .returned (.tuple #[v0_, .int .i64 r2]) ∧ Kd.R (Kd.int .i64) 3 w' w.heap.size (fun _ => True) v0_ r1 ∧ Below w.heap.size w w' := by
  have HR0 := Aside0.mk hr0
  have HC0 := Aside0.mk hc0
  clear hr0 hc0
  have HB := Aside0.mk (Below.refl w.heap.size w)
  have H : ((spec_l6Open.f l0).bind fun bt577 => ((spec_l91Some.f k bt577.1 bt577.2 8).bind fun bt580 => ((spec_l6Rd_pick.f k bt577.1 bt580.2 16).bind fun bt584 => (if bt584.1 = 0 then ((some (([1001, (-1001), (-9223372036854775808), 1000] : List Int) : List Int)).bind fun y586 => ((spec_l6Rd_pick.f k bt577.1 bt584.2 4).bind fun bt589 => (if 0 ≤ bt589.1 then (if bt589.1 < (y586.length : Int) then (some (bt580.1, rd y586 bt589.1)) else (none)) else (none)))) else ((spec_l6Rd_pick.f k bt577.1 bt584.2 31).bind fun bt592 => (some (bt580.1, wrap64 (bt592.1 - 10)))))))) = some (r1, r2) := h
  clear h
  replace H := Option.bind_eq_some_iff.mp H
  obtain ⟨⟨t577, t578⟩, A20, H⟩ := H
  replace H : ((spec_l91Some.f k t577 t578 8).bind fun bt580 => ((spec_l6Rd_pick.f k t577 bt580.2 16).bind fun bt584 => (if bt584.1 = 0 then ((some (([1001, (-1001), (-9223372036854775808), 1000] : List Int) : List Int)).bind fun y586 => ((spec_l6Rd_pick.f k t577 bt584.2 4).bind fun bt589 => (if 0 ≤ bt589.1 then (if bt589.1 < (y586.length : Int) then (some (bt580.1, rd y586 bt589.1)) else (none)) else (none)))) else ((spec_l6Rd_pick.f k t577 bt584.2 31).bind fun bt592 => (some (bt580.1, wrap64 (bt592.1 - 10))))))) = some (r1, r2) := H
  have A2 := Aside0.mk A20
  clear A20
  replace H := Option.bind_eq_some_iff.mp H
  obtain ⟨⟨t580, t583⟩, A30, H⟩ := H
  replace H : ((spec_l6Rd_pick.f k t577 t583 16).bind fun bt584 => (if bt584.1 = 0 then ((some (([1001, (-1001), (-9223372036854775808), 1000] : List Int) : List Int)).bind fun y586 => ((spec_l6Rd_pick.f k t577 bt584.2 4).bind fun bt589 => (if 0 ≤ bt589.1 then (if bt589.1 < (y586.length : Int) then (some (t580, rd y586 bt589.1)) else (none)) else (none)))) else ((spec_l6Rd_pick.f k t577 bt584.2 31).bind fun bt592 => (some (t580, wrap64 (bt592.1 - 10)))))) = some (r1, r2) := H
  have A3 := Aside0.mk A30
  clear A30
  replace H := Option.bind_eq_some_iff.mp H
  obtain ⟨⟨t584, t585⟩, A40, H⟩ := H
  replace H : (if t584 = 0 then ((some (([1001, (-1001), (-9223372036854775808), 1000] : List Int) : List Int)).bind fun y586 => ((spec_l6Rd_pick.f k t577 t585 4).bind fun bt589 => (if 0 ≤ bt589.1 then (if bt589.1 < (y586.length : Int) then (some (t580, rd y586 bt589.1)) else (none)) else (none)))) else ((spec_l6Rd_pick.f k t577 t585 31).bind fun bt592 => (some (t580, wrap64 (bt592.1 - 10))))) = some (r1, r2) := H
  have A4 := Aside0.mk A40
  clear A40
  by_cases c5 : t584 = 0
  · rw [if_pos c5] at H
    have c5b0 : (t584 == 0) = true := beq_iff_eq.mpr c5
    have c5b1 : (t584 != 0) = false := bne_eq_false_iff_eq.mpr c5
    clear c5
    obtain ⟨y586, hy586⟩ : ∃ y_ : List Int, y_ = (([1001, (-1001), (-9223372036854775808), 1000] : List Int)) := ⟨_, rfl⟩
    replace H : ((spec_l6Rd_pick.f k t577 t585 4).bind fun bt589 => (if 0 ≤ bt589.1 then (if bt589.1 < (y586.length : Int) then (some (t580, rd y586 bt589.1)) else (none)) else (none))) = some (r1, r2) := by first | (rw [hy586]; with_reducible exact H) | (have H2_ := (Option.bind_some _ _).symm.trans H; rw [hy586]; with_reducible exact H2_) | (have H2_ := (Option.bind_some _ _).symm.trans H; with_reducible exact H2_) | with_reducible exact H | (rw [hy586]; exact H) | exact H
    have Ny586 := Aside0.mk hy586
    clear hy586
    replace H := Option.bind_eq_some_iff.mp H
    obtain ⟨⟨t589, t590⟩, A60, H⟩ := H
    replace H : (if 0 ≤ t589 then (if t589 < (y586.length : Int) then (some (t580, rd y586 t589)) else (none)) else (none)) = some (r1, r2) := H
    have A6 := Aside0.mk A60
    clear A60
    by_cases c7 : 0 ≤ t589
    · rw [if_pos c7] at H
      have c7b0 : decide (0 ≤ t589) = true := decide_eq_true c7
      clear c7
      by_cases c8 : t589 < (y586.length : Int)
      · rw [if_pos c8] at H
        have c8b0 : decide (t589 < (y586.length : Int)) = true := decide_eq_true c8
        clear c8
        simp only [Option.some.injEq, Prod.mk.injEq] at H
        obtain ⟨rfl, rfl⟩ := H
        go_enter Try.func31, Try.ntmps31
        try go_wp2_with (first | ((with_reducible refine gate_callee (f := 36) rfl ?_); refine goesL_ (some 7) rfl rfl Try.func36 (by kernel_rfl) rfl #[.slice A0 l0.length c0] rfl (by (try simp only [List.map_toArray, List.map_cons, List.map_nil]); first | done | rfl | (simp only [List.length_drop, List.length_take]; rfl)) ?_; (with_reducible refine (spec_l6Open.calls _ _ l0 t577 t578 w _ ?side1 ?side2 ?side3 A2.out).mono ?_); (case side1 => repeat (first | (with_reducible first | exact HB.out | apply below_alloc | apply pw_below_drewN | apply below_drew1) | exact HB.out)); (case side2 => exact HR0.out); (case side3 => exact HC0.out); rintro e w9 ⟨g579, rfl, hi, hb, hb2⟩; refine ⟨_, rfl, ?_⟩; have n0_ := Aside0.mk (hb); have n1_ := Aside0.mk (hi); clear HB; have HB := n0_; have HI579 := n1_; clear n0_ n1_; (try clear hb); (try clear hb2); (try clear hk); (try clear hi)) | ((with_reducible refine gate_callee (f := 35) rfl ?_); refine goesL_ (some 9) rfl rfl Try.func35 (by kernel_rfl) rfl #[.pointer (some ⟨g579, 0, none⟩), .int .i64 8] rfl (by (try simp only [List.map_toArray, List.map_cons, List.map_nil]); first | done | rfl | (simp only [List.length_drop, List.length_take]; rfl)) ?_; (with_reducible refine (spec_l91Some.calls k g579 t577 t578 8 t580 t583 w _ ?side1 ?side2 A3.out).mono ?_); (case side1 => repeat (first | (with_reducible first | exact HI579.out | apply IsS57.alloc | apply IsS57.drewN | apply IsS57.drew | apply IsS57.set_1) | exact HI579.out)); (case side2 => repeat (first | (with_reducible first | exact HB.out | apply below_alloc | apply pw_below_drewN | apply below_drew1 | refine below_set ?_ (IsS57.ge HI579.out)) | exact HB.out)); rintro e w10 ⟨v581, rfl, ho0, hi, hb, hk⟩; refine ⟨_, rfl, ?_⟩; have n0_ := Aside0.mk (Kd.R_lower ho0 (below_size (by repeat (first | (with_reducible first | exact HB.out | apply below_alloc | apply pw_below_drewN | apply below_drew1 | refine below_set ?_ (IsS57.ge HI579.out)) | exact HB.out)))); have n1_ := Aside0.mk (hb); have n2_ := Aside0.mk (hi); clear HB; clear HI579; have HO582 := n0_; have HB := n1_; have HI579 := n2_; clear n0_ n1_ n2_; (try clear hb); (try clear hb2); (try clear hk); (try clear hi); (try clear ho0)) | ((with_reducible refine gate_callee (f := 48) rfl ?_); refine goesL_ (some 11) rfl rfl Try.func48 (by kernel_rfl) rfl #[.pointer (some ⟨g579, 0, none⟩), .int .i64 16] rfl (by (try simp only [List.map_toArray, List.map_cons, List.map_nil]); first | done | rfl | (simp only [List.length_drop, List.length_take]; rfl)) ?_; (with_reducible refine (spec_l6Rd_pick.calls k g579 t577 t583 16 t584 t585 w _ ?side1 ?side2 A4.out).mono ?_); (case side1 => repeat (first | (with_reducible first | exact HI579.out | apply IsS57.alloc | apply IsS57.drewN | apply IsS57.drew | apply IsS57.set_1) | exact HI579.out)); (case side2 => repeat (first | (with_reducible first | exact HB.out | apply below_alloc | apply pw_below_drewN | apply below_drew1 | refine below_set ?_ (IsS57.ge HI579.out)) | exact HB.out)); rintro e w11 ⟨rfl, hi, hb, hk⟩; refine ⟨_, rfl, ?_⟩; have n0_ := Aside0.mk (Kd.R_mono (Kd.R_keep (IsS57.apart (show IsS57 w _ g579 t577 t583 from by repeat (first | (with_reducible first | exact HI579.out | apply IsS57.alloc | apply IsS57.drewN | apply IsS57.drew | apply IsS57.set_1) | exact HI579.out)) (by (with_reducible repeat (first | apply Kd.R_alloc | apply Kd.R_drewN | apply Kd.R_drew)); exact HO582.out) (by decide)) hk (fun _ h => h.2)) (fun _ h => h.1)); have n1_ := Aside0.mk (hb); have n2_ := Aside0.mk (hi); clear HO582; clear HB; clear HI579; have HO582 := n0_; have HB := n1_; have HI579 := n2_; clear n0_ n1_ n2_; (try clear hb); (try clear hb2); (try clear hk); (try clear hi)))
        have pi591 : (0 ≤ (t589 : Int)) = True := eq_true (of_decide_eq_true (by first | (with_reducible assumption) | assumption))
        have qi591 : (t589 < (y586.length : Int)) = True := eq_true (of_decide_eq_true (by first | (with_reducible assumption) | assumption))
        have n0_ := Aside0.mk (Kd.R_drew HO582.out)
        have n1_ := Aside0.mk (IsS57.drew HI579.out)
        have n2_ := Aside0.mk (below_drew1 HB.out)
        clear HO582
        clear HI579
        clear HB
        have HO582 := n0_
        have HI579 := n1_
        have HB := n2_
        clear n0_ n1_ n2_
        refine start_ (n := 8) (S := fun w' => True) (ds := []) #[false, false, false, false, false, false, false, false] (by kernel_rfl) rfl rfl trivial (fun hHeld => ?_); refine with_tabW spec_DrawPermPower.tab4 spec_DrawPermPower.bits4 (fun HT_ HW_ => ?_)
        generalize w11.drew = w12 at HO582 HI579 HB hHeld ⊢
        refine pure_ (i := 0) (N := some 13) (v := ?_) (a' := ?_) #[true, false, false, false, false, false, false, false] rfl rfl (any_of HT_.out (by kernel_rfl)) (fun _ _ _ h => h) (Or.inl ⟨by rfl, ?_⟩) ?_ ?_
        rotate_left
        · intro w'
          go_simp
          with_reducible rfl
        rotate_left
        · simp only [Act.put, List.setIfInBounds_toArray, List.set_cons_zero, List.set_cons_succ, i64_w, i32_w]
          rfl
        refine pure_ (i := 2) (N := some 15) (v := ?_) (a' := ?_) #[true, false, true, false, false, false, false, false] rfl rfl (any_of HT_.out (by kernel_rfl)) (fun _ _ _ h => h) (Or.inl ⟨by rfl, ?_⟩) ?_ ?_
        rotate_left
        · intro w'
          go_simp
          with_reducible rfl
        rotate_left
        · simp only [Act.put, List.setIfInBounds_toArray, List.set_cons_zero, List.set_cons_succ, i64_w, i32_w]
          rfl
        refine inv_at [1, 3, 4, 5, 6, 7] (fun a0_ b a w' => ∃ (v587 : Value) (adz_v587 : Addr) (m4_ : Value), a = putSel a0_ b [(1, 14, v587), (3, 16, .int .i64 t589), (4, 17, m4_), (5, 18, .int .i64 (rd y586 t589)), (6, 2, v581), (7, 3, .int .i64 (rd y586 t589))] ∧ (Kd.R (Kd.int .i64) 3 w' w.heap.size (fun _ => True) v581 t580) ∧ (b 3 = false → IsS57 w w' g579 t577 t585) ∧ (Below w.heap.size w w') ∧ (b 1 = true → Kd.R (Kd.int .i64) 3 w' w.heap.size (fun k_ => some k_ ≠ (v581 : Value).ownBlock) v587 y586) ∧ (b 1 = true → ∃ c_, (v587 : Value) = .slice (some adz_v587) y586.length c_) ∧ (b 3 = true → IsS57 w w' g579 t577 t590) ∧ (b 4 = true → (m4_ : Value) = .pointer (some (adz_v587.add (t589).toNat)))) HT_.out HW_.out (by kernel_rfl) (by kernel_rfl) ?_ ?_ ?_
        · exact ⟨.bool false, ⟨0, 0, none⟩, .bool false, by simp only [putSel, Bool.false_eq_true, if_false], HO582.out, fun _ => HI579.out, HB.out, fun h_ => absurd h_ (by decide), fun h_ => absurd h_ (by decide), fun h_ => absurd h_ (by decide), fun h_ => absurd h_ (by decide)⟩
        · skip
          clear HB HI579 HO582
          refine steps_cons ?_ ?_
          · rintro b a w' ⟨v587, adz_v587, m4_, ha, Q_HO582, Q_HI579, Q_HB, Q_HO588, Q_HA_HO588, Q_HI579_e3, Q_X4_⟩ hb_ hon hoff
            refine ⟨_, rfl, fun K hK => ?_⟩
            replace ha := Aside0.mk ha
            have HO582 := Aside0.mk Q_HO582
            have HB := Aside0.mk Q_HB
            refine Kd.R_lit_step (Kd.int .i64) _ 3 ?hg (N := 14) ?hd (xs := ([1001, (-1001), (-9223372036854775808), 1000] : List Int)) (inner := [.int .i64 1001, .int .i64 (-1001), .int .i64 (-9223372036854775808), .int .i64 1000]) (ok := fun _ => True) (okp := fun _ => True) ?hr ?hp (fun _ hk => hk) trivial (Below.refl _ _) (Nat.le_refl _) (by simp) ?_; (case hd => rfl); (case hg => rfl); (case hr => first | (go_simp; done) | (go_simp; rfl)); (case hp => exact (Reps.one (show Kd.M (Kd.int .i64) _ _ _ 1001 [.int .i64 1001] from rfl) (Reps.one (show Kd.M (Kd.int .i64) _ _ _ (-1001) [.int .i64 (-1001)] from rfl) (Reps.one (show Kd.M (Kd.int .i64) _ _ _ (-9223372036854775808) [.int .i64 (-9223372036854775808)] from rfl) (Reps.one (show Kd.M (Kd.int .i64) _ _ _ 1000 [.int .i64 1000] from rfl) (Reps.none _ _))))))
            intro v587 w13 ho14 hb hg_ hnew_
            clear hg_ hnew_
            (first | rw [← Ny586.out] at ho14 | (simp only [Int.reduceToNat] at ho14; rw [← Ny586.out] at ho14))
            have n0_ := Aside0.mk (Kd.R_elder' (by (with_reducible repeat (first | apply Kd.R_alloc | apply Kd.R_drewN | apply Kd.R_drew)); exact HO582.out) (Kd.R_base ho14) hb)
            have n1_ := Aside0.mk (Kd.R_lower (Kd.R_new' ho14 (Kd.R_lt (by (with_reducible repeat (first | apply Kd.R_alloc | apply Kd.R_drewN | apply Kd.R_drew)); exact HO582.out))) (below_size (by repeat (first | (with_reducible first | exact HB.out | apply below_alloc | apply pw_below_drewN | apply below_drew1) | exact HB.out))))
            have n3_ := Aside0.mk (below_step (by repeat (first | (with_reducible first | exact HB.out | apply below_alloc | apply pw_below_drewN | apply below_drew1) | exact HB.out)) hb)
            have z_HI579 := fun (h0_ : b 3 = false) => (show IsS57 w w13 g579 t577 t585 from by first | exact (IsS57.below (by repeat (first | (with_reducible first | exact (Q_HI579 h0_) | apply IsS57.alloc | apply IsS57.drewN | apply IsS57.drew | apply IsS57.set_1) | exact (Q_HI579 h0_))) hb))
            have z_HI579_e3 := fun (h0_ : b 3 = true) => (show IsS57 w w13 g579 t577 t590 from by first | exact (IsS57.below (by repeat (first | (with_reducible first | exact (Q_HI579_e3 h0_) | apply IsS57.alloc | apply IsS57.drewN | apply IsS57.drew | apply IsS57.set_1) | exact (Q_HI579_e3 h0_))) hb))
            clear HO582
            clear HB
            have HO582 := n0_
            have HO588 := n1_
            have HB := n3_
            clear n0_ n1_ n3_
            clear hb ho14
            obtain ⟨Ao15, co15, eo15⟩ := Kd.R_slice HO588.out
            subst eo15
            obtain ⟨ado15, fo15, _⟩ := Kd.at_int (Kd.R_reads' HO588.out).2.2 0 (by decide) (by rw [Ny586.out]; simp)
            cases fo15
            refine hK.out _ _ ⟨.slice (some ado15) y586.length co15, ado15, m4_, (by rw [ha.out]; exact putSel_upk 0 hb_ rfl rfl rfl), (by (with_reducible repeat (first | apply Kd.R_alloc | apply Kd.R_drewN | apply Kd.R_drew)); exact Kd.R_mono HO582.out (fun _ hk => by first | exact hk.2 | trivial)), z_HI579, (by repeat (first | (with_reducible first | exact HB.out | apply below_alloc | apply pw_below_drewN | apply below_drew1) | exact HB.out)), fun _ => (by (with_reducible repeat (first | apply Kd.R_alloc | apply Kd.R_drewN | apply Kd.R_drew)); exact Kd.R_mono HO588.out (fun _ hk => by first | exact hk.2 | trivial)), fun _ => ⟨_, rfl⟩, z_HI579_e3, fun h0_ => absurd ((hoff 4 (by kernel_rfl)).symm.trans h0_) (by decide)⟩
          refine steps_cons ?_ ?_
          · rintro b a w' ⟨v587, adz_v587, m4_, ha, Q_HO582, Q_HI579, Q_HB, Q_HO588, Q_HA_HO588, Q_HI579_e3, Q_X4_⟩ hb_ hon hoff
            refine ⟨_, rfl, fun K hK => ?_⟩
            have e15 : a.tmps[15]? = some (.pointer (some ⟨g579, 0, none⟩)) := by rw [ha]; exact (putSel_off rfl).trans rfl
            replace ha := Aside0.mk ha
            have HO582 := Aside0.mk Q_HO582
            have HI579 := Aside0.mk (Q_HI579 hb_)
            have HB := Aside0.mk Q_HB
            refine goes_ Try.func48 (by kernel_rfl) rfl #[.pointer (some ⟨g579, 0, none⟩), .int .i64 4] (by rfl) rfl rfl (by first | (simp only [List.map_toArray, List.map_cons, List.map_nil, Act.eval, Array.getD_eq_getD_getElem?, Option.getD_some, e15]; done) | (simp only [List.map_toArray, List.map_cons, List.map_nil, Act.eval, Array.getD_eq_getD_getElem?, Option.getD_some, e15]; rfl)) ?_
            with_reducible refine (spec_l6Rd_pick.calls k g579 t577 t585 4 t589 t590 w _ ?side1 ?side2 A6.out).mono ?_
            (case side1 => repeat (first | (with_reducible first | exact HI579.out | apply IsS57.alloc | apply IsS57.drewN | apply IsS57.drew | apply IsS57.set_1) | exact HI579.out))
            (case side2 => repeat (first | (with_reducible first | exact HB.out | apply below_alloc | apply pw_below_drewN | apply below_drew1 | refine below_set ?_ (IsS57.ge HI579.out)) | exact HB.out))
            rintro e w13 ⟨rfl, hi, hb, hk⟩
            refine ⟨_, rfl, ?_⟩
            have n0_ := Aside0.mk (Kd.R_mono (Kd.R_keep (IsS57.apart (show IsS57 w _ g579 t577 t585 from by repeat (first | (with_reducible first | exact HI579.out | apply IsS57.alloc | apply IsS57.drewN | apply IsS57.drew | apply IsS57.set_1) | exact HI579.out)) (by (with_reducible repeat (first | apply Kd.R_alloc | apply Kd.R_drewN | apply Kd.R_drew)); exact HO582.out) (by decide)) hk (fun _ h => h.2)) (fun _ h => h.1))
            have n1_ := Aside0.mk (hb)
            have n2_ := Aside0.mk (hi)
            have z_HO588 := fun (h0_ : b 1 = true) => (show Kd.R (Kd.int .i64) 3 w13 w.heap.size (fun k_ => some k_ ≠ (v581 : Value).ownBlock) v587 y586 from by first | exact (Kd.R_mono (Kd.R_keep (IsS57.apart (show IsS57 w _ g579 t577 t585 from by repeat (first | (with_reducible first | exact HI579.out | apply IsS57.alloc | apply IsS57.drewN | apply IsS57.drew | apply IsS57.set_1) | exact HI579.out)) (by (with_reducible repeat (first | apply Kd.R_alloc | apply Kd.R_drewN | apply Kd.R_drew)); exact (Q_HO588 h0_)) (by decide)) hk (fun _ h => h.2)) (fun _ h => h.1)) | exact Kd.R_mono (Kd.R_mono (Kd.R_keep (IsS57.apart (show IsS57 w _ g579 t577 t585 from by repeat (first | (with_reducible first | exact HI579.out | apply IsS57.alloc | apply IsS57.drewN | apply IsS57.drew | apply IsS57.set_1) | exact HI579.out)) (by (with_reducible repeat (first | apply Kd.R_alloc | apply Kd.R_drewN | apply Kd.R_drew)); exact (Q_HO588 h0_)) (by decide)) hk (fun _ h => h.2)) (fun _ h => h.1)) (fun _ h_ => by first | trivial | exact h_ | exact h_.1))
            clear HO582
            clear HB
            clear HI579
            have HO582 := n0_
            have HB := n1_
            have HI579 := n2_
            clear n0_ n1_ n2_
            (try clear hb)
            (try clear hb2)
            (try clear hk)
            (try clear hi)
            refine hK.out _ _ ⟨v587, adz_v587, m4_, (by rw [ha.out]; exact putSel_upk 1 hb_ rfl rfl rfl), (by (with_reducible repeat (first | apply Kd.R_alloc | apply Kd.R_drewN | apply Kd.R_drew)); exact HO582.out), fun h0_ => absurd ((up_self b 3).symm.trans h0_) (by decide), (by repeat (first | (with_reducible first | exact HB.out | apply below_alloc | apply pw_below_drewN | apply below_drew1 | refine below_set ?_ (IsS57.ge HI579.out)) | exact HB.out)), z_HO588, Q_HA_HO588, fun _ => (by repeat (first | (with_reducible first | exact HI579.out | apply IsS57.alloc | apply IsS57.drewN | apply IsS57.drew | apply IsS57.set_1) | exact HI579.out)), fun h0_ => absurd ((hoff 4 (by kernel_rfl)).symm.trans h0_) (by decide)⟩
          refine steps_cons ?_ ?_
          · rintro b a w' ⟨v587, adz_v587, m4_, ha, Q_HO582, Q_HI579, Q_HB, Q_HO588, Q_HA_HO588, Q_HI579_e3, Q_X4_⟩ hb_ hon hoff
            refine ⟨_, rfl, fun K hK => ?_⟩
            have e14 : a.tmps[14]? = some (v587) := by rw [ha]; exact putSel_on (e := (1, 14, v587)) 0 rfl rfl (hon 1 (by kernel_rfl)) rfl
            have e16 : a.tmps[16]? = some (.int .i64 t589) := by rw [ha]; exact putSel_on (e := (3, 16, .int .i64 t589)) 1 rfl rfl (hon 3 (by kernel_rfl)) rfl
            replace ha := Aside0.mk ha
            have HO582 := Aside0.mk Q_HO582
            have HB := Aside0.mk Q_HB
            have HO588 := Aside0.mk (Q_HO588 (hon 1 (by kernel_rfl)))
            have HA_HO588 := Aside0.mk (Q_HA_HO588 (hon 1 (by kernel_rfl)))
            have HI579 := Aside0.mk (Q_HI579_e3 (hon 3 (by kernel_rfl)))
            obtain ⟨c_, hv_⟩ := HA_HO588.out
            rw [hv_] at e14
            refine value_ (w1 := w') (v := .pointer (some (adz_v587.add (t589).toNat))) (by rfl) rfl ?_ ?_
            · go_simp
              (try simp only [i64_w])
              try rfl
            refine hK.out _ _ ⟨v587, adz_v587, (.pointer (some (adz_v587.add (t589).toNat))), (by rw [ha.out]; exact putSel_upk 2 hb_ rfl rfl rfl), Q_HO582, fun h0_ => absurd ((hon 3 (by kernel_rfl)).symm.trans h0_) (by decide), Q_HB, Q_HO588, Q_HA_HO588, Q_HI579_e3, fun _ => rfl⟩
          refine steps_cons ?_ ?_
          · rintro b a w' ⟨v587, adz_v587, m4_, ha, Q_HO582, Q_HI579, Q_HB, Q_HO588, Q_HA_HO588, Q_HI579_e3, Q_X4_⟩ hb_ hon hoff
            refine ⟨_, rfl, fun K hK => ?_⟩
            have e17 : a.tmps[17]? = some (m4_) := by rw [ha]; exact putSel_on (e := (4, 17, m4_)) 2 rfl rfl (hon 4 (by kernel_rfl)) rfl
            rw [Q_X4_ (hon 4 (by kernel_rfl))] at e17
            replace ha := Aside0.mk ha
            have HO582 := Aside0.mk Q_HO582
            have HB := Aside0.mk Q_HB
            have HO588 := Aside0.mk (Q_HO588 (hon 1 (by kernel_rfl)))
            have HA_HO588 := Aside0.mk (Q_HA_HO588 (hon 1 (by kernel_rfl)))
            have HI579 := Aside0.mk (Q_HI579_e3 (hon 3 (by kernel_rfl)))
            obtain ⟨c_, hv_⟩ := HA_HO588.out
            have hF_ := HO588.out
            rw [hv_] at hF_
            obtain ⟨ad_, ea_, hx_⟩ := Kd.at_int (Kd.R_reads' hF_).2.2 t589 (of_eq_true pi591) (of_eq_true qi591)
            cases ea_
            refine value_ (w1 := w') (v := .int .i64 (rd y586 t589)) (by rfl) rfl ?_ ?_
            · go_simp
              (try simp only [i64_w])
              try rfl
            refine hK.out _ _ ⟨v587, adz_v587, m4_, (by rw [ha.out]; exact putSel_upk 3 hb_ rfl rfl rfl), Q_HO582, fun h0_ => absurd ((hon 3 (by kernel_rfl)).symm.trans h0_) (by decide), Q_HB, Q_HO588, Q_HA_HO588, Q_HI579_e3, Q_X4_⟩
          refine steps_cons ?_ ?_
          · rintro b a w' ⟨v587, adz_v587, m4_, ha, Q_HO582, Q_HI579, Q_HB, Q_HO588, Q_HA_HO588, Q_HI579_e3, Q_X4_⟩ hb_ hon hoff
            refine ⟨_, rfl, fun K hK => ?_⟩
            have e13 : a.tmps[13]? = some (v581) := by rw [ha]; exact (putSel_off rfl).trans rfl
            replace ha := Aside0.mk ha
            have HO582 := Aside0.mk Q_HO582
            have HB := Aside0.mk Q_HB
            have HI579 := Aside0.mk (Q_HI579_e3 (hon 3 (by kernel_rfl)))
            refine value_ (w1 := w') (v := v581) (by rfl) rfl ?_ ?_
            · go_simp
              (try simp only [i64_w])
              try rfl
            refine hK.out _ _ ⟨v587, adz_v587, m4_, (by rw [ha.out]; exact putSel_upk 4 hb_ rfl rfl rfl), Q_HO582, fun h0_ => absurd ((hon 3 (by kernel_rfl)).symm.trans h0_) (by decide), Q_HB, Q_HO588, Q_HA_HO588, Q_HI579_e3, Q_X4_⟩
          refine steps_cons ?_ ?_
          · rintro b a w' ⟨v587, adz_v587, m4_, ha, Q_HO582, Q_HI579, Q_HB, Q_HO588, Q_HA_HO588, Q_HI579_e3, Q_X4_⟩ hb_ hon hoff
            refine ⟨_, rfl, fun K hK => ?_⟩
            have e18 : a.tmps[18]? = some (.int .i64 (rd y586 t589)) := by rw [ha]; exact putSel_on (e := (5, 18, .int .i64 (rd y586 t589))) 3 rfl rfl (hon 5 (by kernel_rfl)) rfl
            replace ha := Aside0.mk ha
            have HO582 := Aside0.mk Q_HO582
            have HB := Aside0.mk Q_HB
            have HO588 := Aside0.mk (Q_HO588 (hon 1 (by kernel_rfl)))
            have HA_HO588 := Aside0.mk (Q_HA_HO588 (hon 1 (by kernel_rfl)))
            have HI579 := Aside0.mk (Q_HI579_e3 (hon 3 (by kernel_rfl)))
            refine value_ (w1 := w') (v := .int .i64 (rd y586 t589)) (by rfl) rfl ?_ ?_
            · go_simp
              (try simp only [i64_w])
              try rfl
            refine hK.out _ _ ⟨v587, adz_v587, m4_, (by rw [ha.out]; exact putSel_upk 5 hb_ rfl rfl rfl), Q_HO582, fun h0_ => absurd ((hon 3 (by kernel_rfl)).symm.trans h0_) (by decide), Q_HB, Q_HO588, Q_HA_HO588, Q_HI579_e3, Q_X4_⟩
          exact steps_nil
        rintro b a w17 hall ⟨v587, adz_v587, m4_, ha, Q_HO582, Q_HI579, Q_HB, Q_HO588, Q_HA_HO588, Q_HI579_e3, Q_X4_⟩
        clear HB HI579 HO582
        have hb1_ := hall 1 (by kernel_rfl)
        have hb3_ := hall 3 (by kernel_rfl)
        have hb4_ := hall 4 (by kernel_rfl)
        have hb5_ := hall 5 (by kernel_rfl)
        have hb6_ := hall 6 (by kernel_rfl)
        have hb7_ := hall 7 (by kernel_rfl)
        subst ha
        obtain rfl := Q_X4_ hb4_
        simp only [putSel, hb1_, hb3_, hb4_, hb5_, hb6_, hb7_, if_true, Act.put, List.setIfInBounds_toArray, List.set_cons_zero, List.set_cons_succ]
        have HO582 := Aside0.mk Q_HO582
        clear Q_HO582
        clear Q_HI579
        have HB := Aside0.mk Q_HB
        clear Q_HB
        have HO588 := Aside0.mk (Q_HO588 hb1_)
        clear Q_HO588
        have HA_HO588 := Aside0.mk (Q_HA_HO588 hb1_)
        clear Q_HA_HO588
        have HI579 := Aside0.mk (Q_HI579_e3 hb3_)
        clear Q_HI579_e3
        clear hall hb1_ hb3_ hb4_ hb5_ hb6_ hb7_
        obtain ⟨co18, eo18⟩ := HA_HO588.out
        clear HA_HO588
        subst eo18
        try go_wp2
        go_ret2
        exact ⟨_, by first | rfl | (simp [errW_none, errW_some] <;> rfl) | (simp [*, errW_none, errW_some] <;> rfl), by (with_reducible repeat (first | apply Kd.R_alloc | apply Kd.R_drewN | apply Kd.R_drew)); exact Kd.R_mono HO582.out (fun _ hk => trivial), by repeat (first | (with_reducible first | exact HB.out | apply below_alloc | apply pw_below_drewN | apply below_drew1 | refine below_set ?_ (IsS57.ge HI579.out)) | exact HB.out)⟩
      · rw [if_neg c8] at H
        exact absurd H (by simp)
    · rw [if_neg c7] at H
      exact absurd H (by simp)
  · rw [if_neg c5] at H
    have c5b0 : (t584 == 0) = false := beq_eq_false_iff_ne.mpr c5
    have c5b1 : (t584 != 0) = true := bne_iff_ne.mpr c5
    replace H := Option.bind_eq_some_iff.mp H
    obtain ⟨⟨t592, t593⟩, A190, H⟩ := H
    replace H : (some (t580, wrap64 (t592 - 10))) = some (r1, r2) := H
    have A19 := Aside0.mk A190
    clear A190
    simp only [Option.some.injEq, Prod.mk.injEq] at H
    obtain ⟨rfl, rfl⟩ := H
    go_enter Try.func31, Try.ntmps31
    go_wp2_with (first | ((with_reducible refine gate_callee (f := 36) rfl ?_); refine goesL_ (some 7) rfl rfl Try.func36 (by kernel_rfl) rfl #[.slice A0 l0.length c0] rfl (by (try simp only [List.map_toArray, List.map_cons, List.map_nil]); first | done | rfl | (simp only [List.length_drop, List.length_take]; rfl)) ?_; (with_reducible refine (spec_l6Open.calls _ _ l0 t577 t578 w _ ?side1 ?side2 ?side3 A2.out).mono ?_); (case side1 => repeat (first | (with_reducible first | exact HB.out | apply below_alloc | apply pw_below_drewN | apply below_drew1) | exact HB.out)); (case side2 => exact HR0.out); (case side3 => exact HC0.out); rintro e w20 ⟨g579, rfl, hi, hb, hb2⟩; refine ⟨_, rfl, ?_⟩; have n0_ := Aside0.mk (hb); have n1_ := Aside0.mk (hi); clear HB; have HB := n0_; have HI579 := n1_; clear n0_ n1_; (try clear hb); (try clear hb2); (try clear hk); (try clear hi)) | ((with_reducible refine gate_callee (f := 35) rfl ?_); refine goesL_ (some 9) rfl rfl Try.func35 (by kernel_rfl) rfl #[.pointer (some ⟨g579, 0, none⟩), .int .i64 8] rfl (by (try simp only [List.map_toArray, List.map_cons, List.map_nil]); first | done | rfl | (simp only [List.length_drop, List.length_take]; rfl)) ?_; (with_reducible refine (spec_l91Some.calls k g579 t577 t578 8 t580 t583 w _ ?side1 ?side2 A3.out).mono ?_); (case side1 => repeat (first | (with_reducible first | exact HI579.out | apply IsS57.alloc | apply IsS57.drewN | apply IsS57.drew | apply IsS57.set_1) | exact HI579.out)); (case side2 => repeat (first | (with_reducible first | exact HB.out | apply below_alloc | apply pw_below_drewN | apply below_drew1 | refine below_set ?_ (IsS57.ge HI579.out)) | exact HB.out)); rintro e w21 ⟨v581, rfl, ho0, hi, hb, hk⟩; refine ⟨_, rfl, ?_⟩; have n0_ := Aside0.mk (Kd.R_lower ho0 (below_size (by repeat (first | (with_reducible first | exact HB.out | apply below_alloc | apply pw_below_drewN | apply below_drew1 | refine below_set ?_ (IsS57.ge HI579.out)) | exact HB.out)))); have n1_ := Aside0.mk (hb); have n2_ := Aside0.mk (hi); clear HB; clear HI579; have HO582 := n0_; have HB := n1_; have HI579 := n2_; clear n0_ n1_ n2_; (try clear hb); (try clear hb2); (try clear hk); (try clear hi); (try clear ho0)) | ((with_reducible refine gate_callee (f := 48) rfl ?_); refine goesL_ (some 11) rfl rfl Try.func48 (by kernel_rfl) rfl #[.pointer (some ⟨g579, 0, none⟩), .int .i64 16] rfl (by (try simp only [List.map_toArray, List.map_cons, List.map_nil]); first | done | rfl | (simp only [List.length_drop, List.length_take]; rfl)) ?_; (with_reducible refine (spec_l6Rd_pick.calls k g579 t577 t583 16 t584 t585 w _ ?side1 ?side2 A4.out).mono ?_); (case side1 => repeat (first | (with_reducible first | exact HI579.out | apply IsS57.alloc | apply IsS57.drewN | apply IsS57.drew | apply IsS57.set_1) | exact HI579.out)); (case side2 => repeat (first | (with_reducible first | exact HB.out | apply below_alloc | apply pw_below_drewN | apply below_drew1 | refine below_set ?_ (IsS57.ge HI579.out)) | exact HB.out)); rintro e w22 ⟨rfl, hi, hb, hk⟩; refine ⟨_, rfl, ?_⟩; have n0_ := Aside0.mk (Kd.R_mono (Kd.R_keep (IsS57.apart (show IsS57 w _ g579 t577 t583 from by repeat (first | (with_reducible first | exact HI579.out | apply IsS57.alloc | apply IsS57.drewN | apply IsS57.drew | apply IsS57.set_1) | exact HI579.out)) (by (with_reducible repeat (first | apply Kd.R_alloc | apply Kd.R_drewN | apply Kd.R_drew)); exact HO582.out) (by decide)) hk (fun _ h => h.2)) (fun _ h => h.1)); have n1_ := Aside0.mk (hb); have n2_ := Aside0.mk (hi); clear HO582; clear HB; clear HI579; have HO582 := n0_; have HB := n1_; have HI579 := n2_; clear n0_ n1_ n2_; (try clear hb); (try clear hb2); (try clear hk); (try clear hi)) | ((with_reducible refine gate_callee (f := 48) rfl ?_); refine goesL_ (some 21) rfl rfl Try.func48 (by kernel_rfl) rfl #[.pointer (some ⟨g579, 0, none⟩), .int .i64 31] rfl (by (try simp only [List.map_toArray, List.map_cons, List.map_nil]); first | done | rfl | (simp only [List.length_drop, List.length_take]; rfl)) ?_; (with_reducible refine (spec_l6Rd_pick.calls k g579 t577 t585 31 t592 t593 w _ ?side1 ?side2 A19.out).mono ?_); (case side1 => repeat (first | (with_reducible first | exact HI579.out | apply IsS57.alloc | apply IsS57.drewN | apply IsS57.drew | apply IsS57.set_1) | exact HI579.out)); (case side2 => repeat (first | (with_reducible first | exact HB.out | apply below_alloc | apply pw_below_drewN | apply below_drew1 | refine below_set ?_ (IsS57.ge HI579.out)) | exact HB.out)); rintro e w23 ⟨rfl, hi, hb, hk⟩; refine ⟨_, rfl, ?_⟩; have n0_ := Aside0.mk (Kd.R_mono (Kd.R_keep (IsS57.apart (show IsS57 w _ g579 t577 t585 from by repeat (first | (with_reducible first | exact HI579.out | apply IsS57.alloc | apply IsS57.drewN | apply IsS57.drew | apply IsS57.set_1) | exact HI579.out)) (by (with_reducible repeat (first | apply Kd.R_alloc | apply Kd.R_drewN | apply Kd.R_drew)); exact HO582.out) (by decide)) hk (fun _ h => h.2)) (fun _ h => h.1)); have n1_ := Aside0.mk (hb); have n2_ := Aside0.mk (hi); clear HO582; clear HB; clear HI579; have HO582 := n0_; have HB := n1_; have HI579 := n2_; clear n0_ n1_ n2_; (try clear hb); (try clear hb2); (try clear hk); (try clear hi)))
    go_ret2
    exact ⟨_, by first | rfl | (simp [errW_none, errW_some] <;> rfl) | (simp [*, errW_none, errW_some] <;> rfl), by (with_reducible repeat (first | apply Kd.R_alloc | apply Kd.R_drewN | apply Kd.R_drew)); exact HO582.out, by repeat (first | (with_reducible first | exact HB.out | apply below_alloc | apply pw_below_drewN | apply below_drew1 | refine below_set ?_ (IsS57.ge HI579.out)) | exact HB.out)⟩

end Go.Proofs.Ytknkefjleinkkaa.F
