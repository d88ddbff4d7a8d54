/- Contracts: what these Go functions return. -/
import Derived.Test.YtjnbbnaidjodlaaF0
import Derived.Test.YtjnbbnaidjodlaaF10
import Derived.Test.YtjnbbnaidjodlaaF21
import Derived.Test.YtjnbbnaidjodlaaF27
import Derived.Test.YtjnbbnaidjodlaaF28
import Derived.Test.YtjnbbnaidjodlaaF29
import Derived.Test.YtjnbbnaidjodlaaF30
namespace Go.Proofs.Ytjnbbnaidjodlaa.F
open Go.RowKit Go.Proofs.YtjnbbnaidjodlaaW.PrintWords Go.Proofs.YtjnbbnaidjodlaaW.PrintLast Go.Proofs.YtjnbbnaidjodlaaW.PrintMore
attribute [local go_sem] max2_int min2_int max_two min_two max_three min_three max_four min_four
set_option linter.unusedVariables false
set_option linter.unusedSimpArgs false

/-! ### laws_FnTurns: function 3 -/
mutual
def laws_FnTurns.j0 : Nat → Int → Int → Bool → List Int → List Int → Option (Bool)
 | 0, _, _, _, _, _ => none
 | k + 1, x4, x5, x30, x463000, x463001 => if x30 = true then (some (x4 == x5)) else ((impl_MapDual.f k x463000 x463001).bind fun bt465 => (laws_FnTurns.l0 k x4 (x463000.length : Int) bt465.2.2 (([] : List (S25))) 0 x463000 x463001 bt465.1 bt465.2.1))
def laws_FnTurns.l0 : Nat → Int → Int → Bool → List (S25) → Int → List Int → List Int → List Int → List Int → Option (Bool)
 | 0, _, _, _, _, _, _, _, _, _ => none
 | k + 1, x4, x6, x8, x9, x10, x463000, x463001, x473000, x473001 => if x10 < x6 then ((impl_MapForm.f k x463000 x463001 x10).bind fun bt477 => (laws_FnTurns.l1 k x4 x6 x8 x9 x10 bt477.2.2 true 0 x463000 x463001 x473000 x473001 bt477.1 bt477.2.1)) else (if x8 = true then (if x4 ≥ 1 then (if x4 = 0 then (none) else (if (Int.tmod x6 x4) = 0 then (if (x9.length : Int) = (wrap64 (Int.tdiv x6 x4)) then ((impl_MapTurns.f k x473000 x473001).bind fun t476 => (some (t476 == x4))) else (some false)) else (some false))) else (some false)) else (some false))
def laws_FnTurns.l1 : Nat → Int → Int → Bool → List (S25) → Int → Bool → Bool → Int → List Int → List Int → List Int → List Int → List Int → List Int → Option (Bool)
 | 0, _, _, _, _, _, _, _, _, _, _, _, _, _, _ => none
 | k + 1, x4, x6, x8, x9, x10, x12, x13, x14, x463000, x463001, x473000, x473001, x485000, x485001 => if x14 < (x9.length : Int) then (if x13 = true then (if 0 ≤ x14 then ((laws_sameMap.f k ((rd_T25 x9 x14).f0) ((rd_T25 x9 x14).f1) x485000 x485001).bind fun t486 => (laws_FnTurns.l1 k x4 x6 x8 x9 x10 x12 (!t486) (wrap64 (x14 + 1)) x463000 x463001 x473000 x473001 x485000 x485001)) else (none)) else (laws_FnTurns.l1 k x4 x6 x8 x9 x10 x12 false (wrap64 (x14 + 1)) x463000 x463001 x473000 x473001 x485000 x485001)) else (if x12 = true then (if x13 = true then (if x9.length < 2932031007402 then (laws_FnTurns.l0 k x4 x6 x8 (x9 ++ [(⟨x485000, x485001⟩ : S25)]) (wrap64 (x10 + 1)) x463000 x463001 x473000 x473001) else (none)) else (laws_FnTurns.l0 k x4 x6 x8 x9 (wrap64 (x10 + 1)) x463000 x463001 x473000 x473001)) else (some false))
end
def laws_FnTurns.f (k : Nat) (l0 : List Int) : Option (Bool) := if (l0.length : Int) > 1048576 then (some true) else ((spec_DrawMapTurns.f k l0).bind fun bt456 => ((impl_MapTurns.f k bt456.1 bt456.2).bind fun t463 => ((spec_MapTurns.f k bt456.1 bt456.2).bind fun t464 => (if t463 = t464 then (laws_FnTurns.j0 k t463 t464 (decide (t463 < 0)) bt456.1 bt456.2) else (laws_FnTurns.j0 k t463 t464 true bt456.1 bt456.2)))))
def laws_FnTurns.T19 : Bool × List (List Nat × List Nat) := (true, [([], []), ([0], [0]), ([1], [1]), ([1], [1]), ([2, 3, 1], [1, 2, 3]), ([4, 1], [1, 4]), ([1], [1]), ([5, 6, 1, 1], [1, 5, 6]), ([7, 1], [1, 7]), ([1, 8], [1, 8]), ([9, 7, 0, 1, 2, 3, 4, 5, 6, 7, 8, 9], [0, 9])])
def laws_FnTurns.B19 : List Nat := [0, 1, 3, 3, 15, 31, 3, 127, 255, 511, 1023]
theorem laws_FnTurns.tab19 : rtab .any (opsOf Try.f3 19) = laws_FnTurns.T19 := by kernel_rfl
theorem laws_FnTurns.bits19 : waitsOk laws_FnTurns.T19.2 laws_FnTurns.B19 = true := by kernel_rfl
set_option maxHeartbeats 8000000 in
set_option maxRecDepth 100000 in
theorem laws_FnTurns.calls (k : Nat) (A0 : Option Addr) (c0 : Nat) (l0 : List Int) (r : Bool) (w : World) (hr0 : Kd.C (Kd.int .u8) w A0 l0.length l0) (hc0 : l0.length ≤ c0) (hr_ : Aside0 (r = true)) (h : laws_FnTurns.f k l0 = some r) :
 Calls Try.prog 3 #[.slice A0 l0.length c0] w fun e w' => e = .returned (.bool r) ∧ Below w.heap.size w w' := by
 have hu25 := Try.underlying25
 have HR0 := Aside0.mk hr0
 have HC0 := Aside0.mk hc0
 clear hr0 hc0
 have HB := Aside0.mk (Below.refl w.heap.size w)
 have H : (if (l0.length : Int) > 1048576 then (some true) else ((spec_DrawMapTurns.f k l0).bind fun bt456 => ((impl_MapTurns.f k bt456.1 bt456.2).bind fun t463 => ((spec_MapTurns.f k bt456.1 bt456.2).bind fun t464 => (if t463 = t464 then (laws_FnTurns.j0 k t463 t464 (decide (t463 < 0)) bt456.1 bt456.2) else (laws_FnTurns.j0 k t463 t464 true bt456.1 bt456.2)))))) = some r := h
 clear h
 by_cases c2 : (l0.length : Int) > 1048576
 ·rw [if_pos c2] at H
  have c2b0 : decide (1048576 < (l0.length : Int)) = true := decide_eq_true c2
  have c2b1 : decide (1048576 < l0.length) = true := decide_eq_true (by omega)
  clear c2
  obtain rfl := Option.some.inj H
  go_enter Try.func3, Try.ntmps3
  go_wp2
  go_ret
  exact ⟨eR, bP HB⟩
 ·rw [if_neg c2] at H
  have c2b0 : decide (1048576 < (l0.length : Int)) = false := decide_eq_false c2
  have c2b1 : decide (1048576 < l0.length) = false := decide_eq_false (by omega)
  clear c2
  obtain ⟨⟨t456, t459⟩, A30, H⟩ := Option.bind_eq_some_iff.mp H
  dsimp only at H
  have A3 := Aside0.mk A30
  clear A30
  obtain ⟨t463, A40, H⟩ := Option.bind_eq_some_iff.mp H
  have A4 := Aside0.mk A40
  clear A40
  obtain ⟨t464, A50, H⟩ := Option.bind_eq_some_iff.mp H
  have A5 := Aside0.mk A50
  clear A50
  have HC6 := Aside0.mk H
  clear H
  go_enter Try.func3, Try.ntmps3
  go_upto_region 6 with (first | ((with_reducible refine gate_callee (f := 4) rfl ?_); refine gL (some 19) Try.func4 #[.slice A0 l0.length c0] ?_; (with_reducible refine (spec_DrawMapTurns.calls k _ _ l0 t456 t459 _ ?side1 ?side2 A3.out).mono ?_); (case side1 => repeat (first | exact HR0.out | (with_reducible refine Kd.C_alloc ?_ _) | (with_reducible refine Kd.C_drewN ?_ _) | (with_reducible refine Kd.C_drew ?_))); (case side2 => exact HC0.out); rintro e w7 ⟨v457, v460, rfl, ho0, ho1, hb⟩; refine ⟨_, rfl, ?_⟩; have HO458 := Aside0.mk (Kd.Q_lower ho0 (below_size (bP HB))); have HO461 := rL ho1 HB; replace HB := bS HB hb; (try clear hb); (try clear hb2); (try clear hk); (try clear hi); (try clear ho0); (try clear ho1)) | ((with_reducible refine gate_dst (N := 3) rfl ?_); (try (refine gate_guard (by rfl) ?_; dsimp only)); refine bE 3 #[.slice none 0 0, .slice none 0 0] 25 ?_; intro gb462 hg w8 hbox hb; replace HO458 := Aside0.mk (Kd.Q_below (qP HO458) hb); replace HO461 := rB HO461 hb; have BK462 := Aside0.mk (hbox); have GW462 := gS HB hg; have GE462 := gS HB hg; replace HB := bS HB hb; clear hb hbox hg; obtain ⟨Ao9, co9, eo9, _⟩ := Kd.Q_slice HO458.out; subst eo9; have hcz10_0 := zc0 BK462; have hcz10_1 := zc1 BK462; have hfz10_0 := blk_frozen BK462.out 0; have hfz10_1 := blk_frozen BK462.out 1; obtain ⟨Ao11, co11, eo11⟩ := Kd.R_slice HO461.out; subst eo11) | ((with_reducible refine gate_callee (f := 5) rfl ?_); refine gL (some 21) Try.func5 #[.agg #[.slice Ao9 t456.length co9, .slice Ao11 t459.length co11]] ?_; (with_reducible refine (impl_MapTurns.calls k _ _ t456 _ _ t459 t463 _ ?side1 ?side2 ?side3 ?side4 A4.out).mono ?_); (case side1 => refine (Kd.Q_reads' (e := 3) (base := w.heap.size) (ok := fun k_ => oN k_ Ao11 t459 co11) (n := t456.length) (c := co9) ?_).2.2; exact (qT (Kd.Q_mono (qF gb462 1 (qF gb462 0 (Kd.Q_types HO458.out BK462.out (by decide)) (.slice Ao9 t456.length co9)) (.slice Ao11 t459.length co11)) (fun _ h_ => h_.1)))); (case side2 => exact (Kd.Q_reads' HO458.out).2.1); (case side3 => refine (Kd.R_reads' (e := 3) (base := w.heap.size) (ok := fun k_ => oN k_ Ao9 t456 co9) (n := t459.length) (c := co11) ?_).2.2; exact (rT (Kd.R_mono (rF gb462 1 (rF gb462 0 (rY HO461 BK462) (.slice Ao9 t456.length co9)) (.slice Ao11 t459.length co11)) (fun _ h_ => h_.1)))); (case side4 => exact (Kd.R_reads' HO461.out).2.1); rintro e w12 ⟨rfl, hb⟩; refine ⟨_, rfl, ?_⟩; replace HO458 := Aside0.mk (Kd.Q_below (qT (Kd.Q_mono (qF gb462 1 (qF gb462 0 (Kd.Q_types HO458.out BK462.out (by decide)) (.slice Ao9 t456.length co9)) (.slice Ao11 t459.length co11)) (fun _ h_ => h_.1))) hb); replace HO461 := Aside0.mk (Kd.R_below (rT (Kd.R_mono (rF gb462 1 (rF gb462 0 (rY HO461 BK462) (.slice Ao9 t456.length co9)) (.slice Ao11 t459.length co11)) (fun _ h_ => h_.1))) hb); replace BK462 := Aside0.mk (blk_below (g := gb462) (o := .cells #[.slice Ao9 t456.length co9, .slice Ao11 t459.length co11] 25 (0, 0)) (by (with_reducible repeat (first | refine blk_drewN ?_ _ | refine blk_drew ?_ | refine blk_alloc ?_ _)); refine blk_put (cs := #[.slice Ao9 t456.length co9, .slice none 0 0]) ?_ 1 _ rfl; (with_reducible repeat (first | refine blk_drewN ?_ _ | refine blk_drew ?_ | refine blk_alloc ?_ _)); refine blk_put (cs := #[.slice none 0 0, .slice none 0 0]) ?_ 0 _ rfl; (with_reducible repeat (first | refine blk_drewN ?_ _ | refine blk_drew ?_ | refine blk_alloc ?_ _)); exact BK462.out) hb); replace HB := bS HB hb; (try clear hb); (try clear hb2); (try clear hk); (try clear hi); have hcz13_0 := zc0 BK462; have hcz13_1 := zc1 BK462; have hfz13_0 := blk_frozen BK462.out 0; have hfz13_1 := blk_frozen BK462.out 1) | ((with_reducible refine gate_callee (f := 6) rfl ?_); refine gL (some 23) Try.func6 #[.agg #[.slice Ao9 t456.length co9, .slice Ao11 t459.length co11]] ?_; (with_reducible refine (spec_MapTurns.calls k _ _ t456 _ _ t459 t464 _ ?side1 ?side2 ?side3 ?side4 A5.out).mono ?_); (case side1 => exact cP (Kd.Q_reads' HO458.out).2.2); (case side2 => exact (Kd.Q_reads' HO458.out).2.1); (case side3 => exact cP (Kd.R_reads' HO461.out).2.2); (case side4 => exact (Kd.R_reads' HO461.out).2.1); rintro e w14 ⟨rfl, hb⟩; refine ⟨_, rfl, ?_⟩; replace HO458 := Aside0.mk (Kd.Q_below (qP HO458) hb); replace HO461 := rB HO461 hb; replace BK462 := kB BK462 hb; replace HB := bS HB hb; (try clear hb); (try clear hb2); (try clear hk); (try clear hi)))
  (try simp only [Act.put, List.setIfInBounds_toArray, List.set_cons_zero, List.set_cons_succ])
  go_cut [30] (fun v30 wc => ∃ (kq : Nat) (x30_5 : Bool), v30 = .bool x30_5 ∧ Aside0 (laws_FnTurns.j0 kq t463 t464 x30_5 t456 t459 = some r) ∧ Aside0 (kq ≤ k) ∧ Aside0 (Kd.Q (Kd.int .i64) 3 wc w.heap.size (fun k_ => oN k_ Ao11 t459 co11) (.slice Ao9 t456.length co9) t456) ∧ Aside0 (Kd.R (Kd.int .i64) 3 wc w.heap.size (fun k_ => oN k_ Ao9 t456 co9) (.slice Ao11 t459.length co11) t459) ∧ Aside0 (wc.heap[gb462]? = some (.cells #[(.slice Ao9 t456.length co9), (.slice Ao11 t459.length co11)] 25 (0, 0))) ∧ Aside0 (Below w.heap.size w wc))
  case first =>
   have H := HC6.out
   clear HC6
   by_cases c15 : t463 = t464
   case neg =>
    rw [if_neg c15] at H
    have c15b0 : (t463 == t464) = false := beq_eq_false_iff_ne.mpr c15
    have c15b1 : (t463 != t464) = true := bne_iff_ne.mpr c15
    (first | rw [c15b0] | (simp only [i64_w, i32_w]; rw [c15b0]) | skip)
    have H' := Aside0.mk H
    clear H
    go_wp2
    go_meet
    case rel => exact ⟨_, (true), eS, H', ⟨by first | omega | exact Nat.le_refl _⟩, ⟨qP HO458⟩, ⟨rP HO461⟩, ⟨kP BK462⟩, ⟨bP HB⟩⟩
   rw [if_pos c15] at H
   have c15b0 : (t463 == t464) = true := beq_iff_eq.mpr c15
   have c15b1 : (t463 != t464) = false := bne_eq_false_iff_eq.mpr c15
   clear c15
   (first | rw [c15b0] | (simp only [i64_w, i32_w]; rw [c15b0]) | skip)
   have H' := Aside0.mk H
   clear H
   go_wp2
   go_meet
   case rel => exact ⟨_, (decide (t463 < 0)), eS, H', ⟨by first | omega | exact Nat.le_refl _⟩, ⟨qP HO458⟩, ⟨rP HO461⟩, ⟨kP BK462⟩, ⟨bP HB⟩⟩
  case rest =>
   clear HC6
   try clear c1
   try clear c2
   try clear c2b0
   try clear c2b1
   try clear p2
   try clear c3
   try clear c4
   try clear c5
   try clear c6
   try clear c15
   try clear c15b0
   try clear c15b1
   try clear hcz10_0
   try clear hcz10_1
   try clear hcz13_0
   try clear hcz13_1
   try clear hfz10_0
   try clear hfz10_1
   try clear hfz13_0
   try clear hfz13_1
   obtain ⟨kq, x30_5, rfl, HA, HJ5, HO_463000, HO_463001, BK462, HB⟩ := hcut
   cases kq with
   | zero => exact absurd HA.out (by simp [laws_FnTurns.j0])
   | succ kj5 =>
    have H := HA.out
    clear HA
    simp only [laws_FnTurns.j0] at H
    by_cases c16 : x30_5 = true
    ·subst c16
     rw [if_pos rfl] at H
     obtain rfl := Option.some.inj H
     go_wp2
     go_ret
     exact ⟨eR, bP HB⟩
    ·replace c16 := Bool.eq_false_iff.mpr c16
     subst c16
     rw [iF] at H
     obtain ⟨⟨t465, t468, t471⟩, A170, H⟩ := Option.bind_eq_some_iff.mp H
     dsimp only at H
     have A17 := Aside0.mk A170
     clear A170
     obtain ⟨y473, hy473⟩ : ∃ y_ : List (S25), y_ = (([] : List (S25))) := ⟨_, rfl⟩
     replace H : (laws_FnTurns.l0 kj5 t463 (t456.length : Int) t471 y473 0 t456 t459 t465 t468) = some r := by first | (rw [hy473]; with_reducible exact H) | (have H2_ := (Option.bind_some _ _).symm.trans H; rw [hy473]; with_reducible exact H2_) | (have H2_ := (Option.bind_some _ _).symm.trans H; with_reducible exact H2_) | with_reducible exact H | (rw [hy473]; exact H) | exact H
     have Ny473 := Aside0.mk hy473
     clear hy473
     have H' := Aside0.mk H
     clear H
     have hcz18_0 := zc0 BK462
     have hcz18_1 := zc1 BK462
     have hfz18_0 := blk_frozen BK462.out 0
     have hfz18_1 := blk_frozen BK462.out 1
     go_wp2_with (first | ((with_reducible refine gate_callee (f := 7) rfl ?_); refine gL (some 39) Try.func7 #[.agg #[.slice Ao9 t456.length co9, .slice Ao11 t459.length co11]] ?_; (with_reducible refine (impl_MapDual.calls kj5 _ _ t456 _ _ t459 t465 t468 t471 _ ?side1 ?side2 ?side3 ?side4 A17.out).mono ?_); (case side1 => exact cP (Kd.Q_reads' HO_463000.out).2.2); (case side2 => exact (Kd.Q_reads' HO_463000.out).2.1); (case side3 => exact cP (Kd.R_reads' HO_463001.out).2.2); (case side4 => exact (Kd.R_reads' HO_463001.out).2.1); rintro e w19 ⟨v466, v469, rfl, ho0, ho1, hb⟩; refine ⟨_, rfl, ?_⟩; have HO467 := Aside0.mk (Kd.R_lower (Kd.R_new' (Kd.R_new' ho0 (Kd.Q_lt (qP HO_463000))) (Kd.R_lt (rP HO_463001))) (below_size (bP HB))); have HO470 := Aside0.mk (Kd.R_lower (Kd.R_new' (Kd.R_new' ho1 (Kd.Q_lt (qP HO_463000))) (Kd.R_lt (rP HO_463001))) (below_size (bP HB))); replace HO_463000 := Aside0.mk (Kd.Q_mono (Kd.Q_told (Kd.Q_told (Kd.Q_old (qP HO_463000) hb) (Kd.R_base ho0)) (Kd.R_base ho1)) (fun _ h_ => h_.1)); replace HO_463001 := Aside0.mk (Kd.R_mono (Kd.R_told (Kd.R_told (Kd.R_old (rP HO_463001) hb) (Kd.R_base ho0)) (Kd.R_base ho1)) (fun _ h_ => h_.1)); replace BK462 := kB BK462 hb; replace HB := bS HB hb; (try clear hb); (try clear hb2); (try clear hk); (try clear hi); (try clear ho0); (try clear ho1)) | ((with_reducible refine gate_dst (N := 7) rfl ?_); (try (refine gate_guard (by rfl) ?_; dsimp only)); refine bE 7 #[.slice none 0 0, .slice none 0 0] 25 ?_; intro gb472 hg w20 hbox hb; replace HO_463000 := Aside0.mk (Kd.Q_below (qP HO_463000) hb); replace HO_463001 := rB HO_463001 hb; replace HO467 := rB HO467 hb; replace HO470 := rB HO470 hb; have BK472 := Aside0.mk (hbox); have GW472 := gS HB hg; have GE472 := gS HB hg; replace HB := bS HB hb; have NB462_472 := nL BK462 hg; have NB472_462 := nG BK462 hg; replace BK462 := kB BK462 hb; clear hb hbox hg; obtain ⟨Ao21, co21, eo21⟩ := Kd.R_slice HO467.out; subst eo21; have hnb22 := NB472_462.out; have hnc22 := NB462_472.out; have hcz23_0 := zc0 BK472; have hcz23_1 := zc1 BK472; have hfz23_0 := blk_frozen BK472.out 0; have hfz23_1 := blk_frozen BK472.out 1; obtain ⟨Ao24, co24, eo24⟩ := Kd.R_slice HO470.out; subst eo24) | ((with_reducible refine gate_dst (N := 42) rfl ?_); (try (refine gate_guard (by rfl) ?_; dsimp only)); refine Kd.S_lit k25 _ 25 ?hg (N := 42) ?hd (xs := ([] : List (S25))) (inner := []) (ok := fun _ => True) (okp := fun _ => True) ?hr ?hp (fun _ hk => hk) trivial (Below.refl _ _) (Nat.le_refl _) (by simp) ?_; (case hd => rfl); (case hg => rfl); (case hr => first | (go_simp; done) | (go_simp; rfl)); (case hp => exact (Reps.none _ _)); intro v474 w25 ho26 hb hg_ hnew_; clear hg_ hnew_; (first | rw [← Ny473.out] at ho26 | (simp only [Int.reduceToNat] at ho26; rw [← Ny473.out] at ho26)); have HO475 := Aside0.mk (Kd.S_lower (Kd.S_newB (Kd.S_newB (Kd.S_new' (Kd.S_new' (Kd.S_new' (Kd.S_new' ho26 (Kd.Q_lt (qT (Kd.Q_mono (qF gb472 1 (qF gb472 0 (Kd.Q_types HO_463000.out BK472.out (by decide)) (.slice Ao21 t465.length co21)) (.slice Ao24 t468.length co24)) (fun _ h_ => h_.1))))) (Kd.R_lt (rT (Kd.R_mono (rF gb472 1 (rF gb472 0 (rY HO_463001 BK472) (.slice Ao21 t465.length co21)) (.slice Ao24 t468.length co24)) (fun _ h_ => h_.1))))) (Kd.R_lt (rT (Kd.R_mono (rF gb472 1 (rF gb472 0 (rY HO467 BK472) (.slice Ao21 t465.length co21)) (.slice Ao24 t468.length co24)) (fun _ h_ => h_.1))))) (Kd.R_lt (rT (Kd.R_mono (rF gb472 1 (rF gb472 0 (rY HO470 BK472) (.slice Ao21 t465.length co21)) (.slice Ao24 t468.length co24)) (fun _ h_ => h_.1))))) (g := gb462) (o := .cells #[.slice Ao9 t456.length co9, .slice Ao11 t459.length co11] 25 (0, 0)) (kF BK462)) (g := gb472) (o := .cells #[.slice Ao21 t465.length co21, .slice Ao24 t468.length co24] 25 (0, 0)) (by (with_reducible repeat (first | refine blk_drewN ?_ _ | refine blk_drew ?_ | refine blk_alloc ?_ _)); refine blk_put (cs := #[.slice Ao21 t465.length co21, .slice none 0 0]) ?_ 1 _ rfl; (with_reducible repeat (first | refine blk_drewN ?_ _ | refine blk_drew ?_ | refine blk_alloc ?_ _)); refine blk_put (cs := #[.slice none 0 0, .slice none 0 0]) ?_ 0 _ rfl; (with_reducible repeat (first | refine blk_drewN ?_ _ | refine blk_drew ?_ | refine blk_alloc ?_ _)); exact BK472.out)) (below_size (bP HB))); replace HO_463000 := Aside0.mk (Kd.Q_below (qT (Kd.Q_mono (qF gb472 1 (qF gb472 0 (Kd.Q_types HO_463000.out BK472.out (by decide)) (.slice Ao21 t465.length co21)) (.slice Ao24 t468.length co24)) (fun _ h_ => h_.1))) hb); replace HO_463001 := Aside0.mk (Kd.R_below (rT (Kd.R_mono (rF gb472 1 (rF gb472 0 (rY HO_463001 BK472) (.slice Ao21 t465.length co21)) (.slice Ao24 t468.length co24)) (fun _ h_ => h_.1))) hb); replace HO467 := Aside0.mk (Kd.R_below (rT (Kd.R_mono (rF gb472 1 (rF gb472 0 (rY HO467 BK472) (.slice Ao21 t465.length co21)) (.slice Ao24 t468.length co24)) (fun _ h_ => h_.1))) hb); replace HO470 := Aside0.mk (Kd.R_below (rT (Kd.R_mono (rF gb472 1 (rF gb472 0 (rY HO470 BK472) (.slice Ao21 t465.length co21)) (.slice Ao24 t468.length co24)) (fun _ h_ => h_.1))) hb); replace BK462 := kG BK462 hb; replace BK472 := Aside0.mk (blk_below (g := gb472) (o := .cells #[.slice Ao21 t465.length co21, .slice Ao24 t468.length co24] 25 (0, 0)) (by (with_reducible repeat (first | refine blk_drewN ?_ _ | refine blk_drew ?_ | refine blk_alloc ?_ _)); refine blk_put (cs := #[.slice Ao21 t465.length co21, .slice none 0 0]) ?_ 1 _ rfl; (with_reducible repeat (first | refine blk_drewN ?_ _ | refine blk_drew ?_ | refine blk_alloc ?_ _)); refine blk_put (cs := #[.slice none 0 0, .slice none 0 0]) ?_ 0 _ rfl; (with_reducible repeat (first | refine blk_drewN ?_ _ | refine blk_drew ?_ | refine blk_alloc ?_ _)); exact BK472.out) hb); replace HB := bS HB hb; clear hb ho26))
     go_loopg [9, 10] kj5 (fun kq v9 v10 w' => ∃ (x9_2 : List (S25)) (x10_2 : Int), v10 = .int .i64 x10_2 ∧ Aside0 (laws_FnTurns.l0 kq t463 (t456.length : Int) t471 x9_2 x10_2 t456 t459 t465 t468 = some r) ∧ Aside0 (kq ≤ kj5) ∧ Aside0 (Kd.S k25 25 w' w.heap.size (fun k_ => oN k_ Ao9 t456 co9 ∧ oN k_ Ao11 t459 co11 ∧ oN k_ Ao21 t465 co21 ∧ oN k_ Ao24 t468 co24 ∧ k_ ≠ gb462 ∧ k_ ≠ gb472) v9 x9_2) ∧ Aside0 (Kd.Q (Kd.int .i64) 3 w' w.heap.size (fun k_ => oN k_ Ao11 t459 co11 ∧ oN k_ Ao21 t465 co21 ∧ oN k_ Ao24 t468 co24) (.slice Ao9 t456.length co9) t456) ∧ Aside0 (Kd.R (Kd.int .i64) 3 w' w.heap.size (fun k_ => oN k_ Ao9 t456 co9 ∧ oN k_ Ao21 t465 co21 ∧ oN k_ Ao24 t468 co24) (.slice Ao11 t459.length co11) t459) ∧ Aside0 (Kd.R (Kd.int .i64) 3 w' w.heap.size (fun k_ => oN k_ Ao9 t456 co9 ∧ oN k_ Ao11 t459 co11 ∧ oN k_ Ao24 t468 co24) (.slice Ao21 t465.length co21) t465) ∧ Aside0 (Kd.R (Kd.int .i64) 3 w' w.heap.size (fun k_ => oN k_ Ao9 t456 co9 ∧ oN k_ Ao11 t459 co11 ∧ oN k_ Ao21 t465 co21) (.slice Ao24 t468.length co24) t468) ∧ Aside0 (w'.heap[gb462]? = some (.cells #[(.slice Ao9 t456.length co9), (.slice Ao11 t459.length co11)] 25 (0, 0))) ∧ Aside0 (w'.heap[gb472]? = some (.cells #[(.slice Ao21 t465.length co21), (.slice Ao24 t468.length co24)] 25 (0, 0))) ∧ Aside0 (Below w.heap.size w w'))
     case atStart => exact ⟨(y473), (0), eS, H', ⟨Nat.le_refl _⟩, ⟨by (with_reducible repeat (first | apply Kd.S_alloc | apply Kd.S_drewN | apply Kd.S_drew)); exact Kd.S_mono HO475.out (fun _ hk => ⟨hk.1.1.1.1.1.2, ⟨hk.1.1.1.1.2, ⟨hk.1.1.1.2, ⟨hk.1.1.2, ⟨hk.1.2, hk.2⟩⟩⟩⟩⟩)⟩, ⟨qT (Kd.Q_mono HO_463000.out (fun _ hk => ⟨hk.1.1, ⟨hk.1.2, hk.2⟩⟩))⟩, ⟨rT (Kd.R_mono HO_463001.out (fun _ hk => ⟨hk.1.1, ⟨hk.1.2, hk.2⟩⟩))⟩, ⟨rT (Kd.R_mono HO467.out (fun _ hk => ⟨hk.1.2, ⟨hk.2, hk.1.1⟩⟩))⟩, ⟨rT (Kd.R_mono HO470.out (fun _ hk => ⟨hk.1.2, ⟨hk.2, hk.1.1⟩⟩))⟩, ⟨kP BK462⟩, ⟨kP BK472⟩, ⟨bP HB⟩⟩
     case round =>
      clear H'
      try clear c1
      try clear c2
      try clear c2b0
      try clear c2b1
      try clear p2
      try clear c3
      try clear c4
      try clear c5
      try clear c6
      try clear c7
      try clear c15
      try clear c15b0
      try clear c15b1
      try clear c16
      try clear c22
      try clear hcz10_0
      try clear hcz10_1
      try clear hcz13_0
      try clear hcz13_1
      try clear hcz18_0
      try clear hcz18_1
      try clear hcz23_0
      try clear hcz23_1
      try clear hfz10_0
      try clear hfz10_1
      try clear hfz13_0
      try clear hfz13_1
      try clear hfz18_0
      try clear hfz18_1
      try clear hfz23_0
      try clear hfz23_1
      try clear p2
      obtain ⟨x9_2, x10_2, rfl, HA, HK2, HO_9, HO_463000, HO_463001, HO_473000, HO_473001, BK462, BK472, HB⟩ := hrel
      cases gk with
      | zero => exact absurd HA.out (by simp [laws_FnTurns.l0])
      | succ k2 =>
       have H := HA.out
       clear HA
       simp only [laws_FnTurns.l0] at H
       by_cases c27 : x10_2 < (t456.length : Int)
       ·rw [if_pos c27] at H
        have c27b0 : decide (x10_2 < (t456.length : Int)) = true := decide_eq_true c27
        clear c27
        obtain ⟨⟨t477, t480, t483⟩, A280, H⟩ := Option.bind_eq_some_iff.mp H
        dsimp only at H
        have A28 := Aside0.mk A280
        clear A280
        have H' := Aside0.mk H
        clear H
        have hnb29 := NB462_472.out
        have hnc29 := NB472_462.out
        have hcz30_0 := zc0 BK462
        have hcz30_1 := zc1 BK462
        have hfz30_0 := blk_frozen BK462.out 0
        have hfz30_1 := blk_frozen BK462.out 1
        go_wp2_with (first | ((with_reducible refine gate_callee (f := 8) rfl ?_); refine gL (some 51) Try.func8 #[.agg #[.slice Ao9 t456.length co9, .slice Ao11 t459.length co11], .int .i64 x10_2] ?_; (with_reducible refine (impl_MapForm.calls k2 _ _ t456 _ _ t459 x10_2 t477 t480 t483 _ ?side1 ?side2 ?side3 ?side4 A28.out).mono ?_); (case side1 => exact cP (Kd.Q_reads' HO_463000.out).2.2); (case side2 => exact (Kd.Q_reads' HO_463000.out).2.1); (case side3 => exact cP (Kd.R_reads' HO_463001.out).2.2); (case side4 => exact (Kd.R_reads' HO_463001.out).2.1); rintro e w31 ⟨v478, v481, rfl, ho0, ho1, hb⟩; refine ⟨_, rfl, ?_⟩; replace HO_9 := Aside0.mk (Kd.S_mono (Kd.S_told (Kd.S_told (Kd.S_old (by (with_reducible repeat (first | apply Kd.S_alloc | apply Kd.S_drewN | apply Kd.S_drew)); exact HO_9.out) hb) (Kd.R_base ho0)) (Kd.R_base ho1)) (fun _ h_ => h_.1)); have HO479 := Aside0.mk (Kd.R_lower (Kd.R_new' (Kd.R_new' (Kd.R_new' (Kd.R_new' ho0 (Kd.Q_lt (qP HO_463000))) (Kd.R_lt (rP HO_463001))) (Kd.R_lt (rP HO_473000))) (Kd.R_lt (rP HO_473001))) (below_size (bP HB))); have HO482 := Aside0.mk (Kd.R_lower (Kd.R_new' (Kd.R_new' (Kd.R_new' (Kd.R_new' ho1 (Kd.Q_lt (qP HO_463000))) (Kd.R_lt (rP HO_463001))) (Kd.R_lt (rP HO_473000))) (Kd.R_lt (rP HO_473001))) (below_size (bP HB))); replace HO_463000 := Aside0.mk (Kd.Q_mono (Kd.Q_told (Kd.Q_told (Kd.Q_old (qP HO_463000) hb) (Kd.R_base ho0)) (Kd.R_base ho1)) (fun _ h_ => h_.1)); replace HO_463001 := Aside0.mk (Kd.R_mono (Kd.R_told (Kd.R_told (Kd.R_old (rP HO_463001) hb) (Kd.R_base ho0)) (Kd.R_base ho1)) (fun _ h_ => h_.1)); replace HO_473000 := Aside0.mk (Kd.R_mono (Kd.R_told (Kd.R_told (Kd.R_old (rP HO_473000) hb) (Kd.R_base ho0)) (Kd.R_base ho1)) (fun _ h_ => h_.1)); replace HO_473001 := Aside0.mk (Kd.R_mono (Kd.R_told (Kd.R_told (Kd.R_old (rP HO_473001) hb) (Kd.R_base ho0)) (Kd.R_base ho1)) (fun _ h_ => h_.1)); replace BK462 := kB BK462 hb; replace BK472 := kB BK472 hb; replace HB := bS HB hb; (try clear hb); (try clear hb2); (try clear hk); (try clear hi); (try clear ho0); (try clear ho1)) | ((with_reducible refine gate_dst (N := 11) rfl ?_); (try (refine gate_guard (by rfl) ?_; dsimp only)); refine bE 11 #[.slice none 0 0, .slice none 0 0] 25 ?_; intro gb484 hg w32 hbox hb; replace HO_9 := Aside0.mk (Kd.S_below (Kd.S_elderB (by (with_reducible repeat (first | apply Kd.S_alloc | apply Kd.S_drewN | apply Kd.S_drew)); exact HO_9.out) gb484 (Nat.le_of_eq hg.symm)) hb); replace HO_463000 := Aside0.mk (Kd.Q_below (qP HO_463000) hb); replace HO_463001 := rB HO_463001 hb; replace HO_473000 := rB HO_473000 hb; replace HO_473001 := rB HO_473001 hb; replace HO479 := rB HO479 hb; replace HO482 := rB HO482 hb; have BK484 := Aside0.mk (hbox); have GW484 := gS HB hg; have GE484 := gS HB hg; replace HB := bS HB hb; have NB462_484 := nL BK462 hg; have NB484_462 := nG BK462 hg; replace BK462 := kB BK462 hb; have NB472_484 := nL BK472 hg; have NB484_472 := nG BK472 hg; replace BK472 := kB BK472 hb; clear hb hbox hg; obtain ⟨Ao33, co33, eo33⟩ := Kd.R_slice HO479.out; subst eo33; have hnb34 := NB484_462.out; have hnc34 := NB462_484.out; have hnb35 := NB484_472.out; have hnc35 := NB472_484.out; have hcz36_0 := zc0 BK484; have hcz36_1 := zc1 BK484; have hfz36_0 := blk_frozen BK484.out 0; have hfz36_1 := blk_frozen BK484.out 1; obtain ⟨Ao37, co37, eo37⟩ := Kd.R_slice HO482.out; subst eo37))
        go_loopg [13, 14] k2 (fun kq v13 v14 w' => ∃ (x13_3 : Bool) (x14_3 : Int), v13 = .bool x13_3 ∧ v14 = .int .i64 x14_3 ∧ Aside0 (laws_FnTurns.l1 kq t463 (t456.length : Int) t471 x9_2 x10_2 t483 x13_3 x14_3 t456 t459 t465 t468 t477 t480 = some r) ∧ Aside0 (kq ≤ k2) ∧ Aside0 (Kd.S k25 25 w' w.heap.size (fun k_ => oN k_ Ao9 t456 co9 ∧ oN k_ Ao11 t459 co11 ∧ oN k_ Ao21 t465 co21 ∧ oN k_ Ao24 t468 co24 ∧ oN k_ Ao33 t477 co33 ∧ oN k_ Ao37 t480 co37 ∧ k_ ≠ gb462 ∧ k_ ≠ gb472 ∧ k_ ≠ gb484) u9 x9_2) ∧ Aside0 (Kd.Q (Kd.int .i64) 3 w' w.heap.size (fun k_ => oN k_ Ao11 t459 co11 ∧ oN k_ Ao21 t465 co21 ∧ oN k_ Ao24 t468 co24 ∧ oN k_ Ao33 t477 co33 ∧ oN k_ Ao37 t480 co37) (.slice Ao9 t456.length co9) t456) ∧ Aside0 (Kd.R (Kd.int .i64) 3 w' w.heap.size (fun k_ => oN k_ Ao9 t456 co9 ∧ oN k_ Ao21 t465 co21 ∧ oN k_ Ao24 t468 co24 ∧ oN k_ Ao33 t477 co33 ∧ oN k_ Ao37 t480 co37) (.slice Ao11 t459.length co11) t459) ∧ Aside0 (Kd.R (Kd.int .i64) 3 w' w.heap.size (fun k_ => oN k_ Ao9 t456 co9 ∧ oN k_ Ao11 t459 co11 ∧ oN k_ Ao24 t468 co24 ∧ oN k_ Ao33 t477 co33 ∧ oN k_ Ao37 t480 co37) (.slice Ao21 t465.length co21) t465) ∧ Aside0 (Kd.R (Kd.int .i64) 3 w' w.heap.size (fun k_ => oN k_ Ao9 t456 co9 ∧ oN k_ Ao11 t459 co11 ∧ oN k_ Ao21 t465 co21 ∧ oN k_ Ao33 t477 co33 ∧ oN k_ Ao37 t480 co37) (.slice Ao24 t468.length co24) t468) ∧ Aside0 (Kd.R (Kd.int .i64) 3 w' w.heap.size (fun k_ => oN k_ Ao9 t456 co9 ∧ oN k_ Ao11 t459 co11 ∧ oN k_ Ao21 t465 co21 ∧ oN k_ Ao24 t468 co24 ∧ oN k_ Ao37 t480 co37) (.slice Ao33 t477.length co33) t477) ∧ Aside0 (Kd.R (Kd.int .i64) 3 w' w.heap.size (fun k_ => oN k_ Ao9 t456 co9 ∧ oN k_ Ao11 t459 co11 ∧ oN k_ Ao21 t465 co21 ∧ oN k_ Ao24 t468 co24 ∧ oN k_ Ao33 t477 co33) (.slice Ao37 t480.length co37) t480) ∧ Aside0 (w'.heap[gb462]? = some (.cells #[(.slice Ao9 t456.length co9), (.slice Ao11 t459.length co11)] 25 (0, 0))) ∧ Aside0 (w'.heap[gb472]? = some (.cells #[(.slice Ao21 t465.length co21), (.slice Ao24 t468.length co24)] 25 (0, 0))) ∧ Aside0 (w'.heap[gb484]? = some (.cells #[(.slice Ao33 t477.length co33), (.slice Ao37 t480.length co37)] 25 (0, 0))) ∧ Aside0 (Below w.heap.size w w'))
        case atStart => exact ⟨(true), (0), eS, eS, H', ⟨Nat.le_refl _⟩, ⟨by (with_reducible repeat (first | apply Kd.S_alloc | apply Kd.S_drewN | apply Kd.S_drew)); exact Kd.S_mono (Kd.S_far (p := ⟨gb484, 1, none⟩) (Kd.S_far (p := ⟨gb484, 0, none⟩) (Kd.S_mono HO_9.out (fun k_ hk => (⟨hk, hk.2⟩ : _ ∧ k_ ≠ gb484))) (fun _ hk => hk.2) (.slice Ao33 t477.length co33)) (fun _ hk => hk.2) (.slice Ao37 t480.length co37)) (fun _ hk => ⟨hk.1.1.1.1.1, ⟨hk.1.1.1.1.2.1, ⟨hk.1.1.1.1.2.2.1, ⟨hk.1.1.1.1.2.2.2.1, ⟨hk.1.1.1.2, ⟨hk.1.1.2, ⟨hk.1.1.1.1.2.2.2.2.1, ⟨hk.1.1.1.1.2.2.2.2.2, hk.1.2⟩⟩⟩⟩⟩⟩⟩⟩)⟩, ⟨qT (Kd.Q_mono (qF gb484 1 (qF gb484 0 (Kd.Q_types HO_463000.out BK484.out (by decide)) (.slice Ao33 t477.length co33)) (.slice Ao37 t480.length co37)) (fun _ hk => ⟨hk.1.1.1.1, ⟨hk.1.1.1.2.1, ⟨hk.1.1.1.2.2, ⟨hk.1.1.2, hk.1.2⟩⟩⟩⟩))⟩, ⟨rT (Kd.R_mono (rF gb484 1 (rF gb484 0 (rY HO_463001 BK484) (.slice Ao33 t477.length co33)) (.slice Ao37 t480.length co37)) (fun _ hk => ⟨hk.1.1.1.1, ⟨hk.1.1.1.2.1, ⟨hk.1.1.1.2.2, ⟨hk.1.1.2, hk.1.2⟩⟩⟩⟩))⟩, ⟨rT (Kd.R_mono (rF gb484 1 (rF gb484 0 (rY HO_473000 BK484) (.slice Ao33 t477.length co33)) (.slice Ao37 t480.length co37)) (fun _ hk => ⟨hk.1.1.1.1, ⟨hk.1.1.1.2.1, ⟨hk.1.1.1.2.2, ⟨hk.1.1.2, hk.1.2⟩⟩⟩⟩))⟩, ⟨rT (Kd.R_mono (rF gb484 1 (rF gb484 0 (rY HO_473001 BK484) (.slice Ao33 t477.length co33)) (.slice Ao37 t480.length co37)) (fun _ hk => ⟨hk.1.1.1.1, ⟨hk.1.1.1.2.1, ⟨hk.1.1.1.2.2, ⟨hk.1.1.2, hk.1.2⟩⟩⟩⟩))⟩, ⟨rT (Kd.R_mono (rF gb484 1 (rF gb484 0 (rY HO479 BK484) (.slice Ao33 t477.length co33)) (.slice Ao37 t480.length co37)) (fun _ hk => ⟨hk.1.1.1.1.2, ⟨hk.1.1.1.2, ⟨hk.1.1.2, ⟨hk.1.2, hk.1.1.1.1.1⟩⟩⟩⟩))⟩, ⟨rT (Kd.R_mono (rF gb484 1 (rF gb484 0 (rY HO482 BK484) (.slice Ao33 t477.length co33)) (.slice Ao37 t480.length co37)) (fun _ hk => ⟨hk.1.1.1.1.2, ⟨hk.1.1.1.2, ⟨hk.1.1.2, ⟨hk.1.2, hk.1.1.1.1.1⟩⟩⟩⟩))⟩, ⟨kF BK462⟩, ⟨kF BK472⟩, ⟨by (with_reducible repeat (first | refine blk_drewN ?_ _ | refine blk_drew ?_ | refine blk_alloc ?_ _)); refine blk_put (cs := #[.slice Ao33 t477.length co33, .slice none 0 0]) ?_ 1 _ rfl; (with_reducible repeat (first | refine blk_drewN ?_ _ | refine blk_drew ?_ | refine blk_alloc ?_ _)); refine blk_put (cs := #[.slice none 0 0, .slice none 0 0]) ?_ 0 _ rfl; (with_reducible repeat (first | refine blk_drewN ?_ _ | refine blk_drew ?_ | refine blk_alloc ?_ _)); exact BK484.out⟩, ⟨bP HB⟩⟩
        case round =>
         clear H'
         try clear c1
         try clear c2
         try clear c2b0
         try clear c2b1
         try clear p2
         try clear c3
         try clear c4
         try clear c5
         try clear c6
         try clear c7
         try clear c8
         try clear c15
         try clear c15b0
         try clear c15b1
         try clear c16
         try clear c22
         try clear c27
         try clear c27b0
         try clear c29
         try clear c34
         try clear c35
         try clear hcz10_0
         try clear hcz10_1
         try clear hcz13_0
         try clear hcz13_1
         try clear hcz18_0
         try clear hcz18_1
         try clear hcz23_0
         try clear hcz23_1
         try clear hcz30_0
         try clear hcz30_1
         try clear hcz36_0
         try clear hcz36_1
         try clear hfz10_0
         try clear hfz10_1
         try clear hfz13_0
         try clear hfz13_1
         try clear hfz18_0
         try clear hfz18_1
         try clear hfz23_0
         try clear hfz23_1
         try clear hfz30_0
         try clear hfz30_1
         try clear hfz36_0
         try clear hfz36_1
         try clear p2
         obtain ⟨x13_3, x14_3, rfl, rfl, HA, HK3, HO_9, HO_463000, HO_463001, HO_473000, HO_473001, HO_485000, HO_485001, BK462, BK472, BK484, HB⟩ := hrel
         cases gk with
         | zero => exact absurd HA.out (by simp [laws_FnTurns.l1])
         | succ k3 =>
          have H := HA.out
          clear HA
          simp only [laws_FnTurns.l1] at H
          by_cases c38 : x14_3 < (x9_2.length : Int)
          case neg =>
           rw [if_neg c38] at H
           have c38b0 : decide (x14_3 < (x9_2.length : Int)) = false := decide_eq_false c38
           clear c38
           by_cases c47 : t483 = true
           case neg =>
            replace c47 := Bool.eq_false_iff.mpr c47
            subst c47
            rw [iF] at H
            exact absurd ((Option.some.inj H).trans hr_.out) (by decide)
           subst c47
           rw [if_pos rfl] at H
           by_cases c48 : x13_3 = true
           case neg =>
            replace c48 := Bool.eq_false_iff.mpr c48
            subst c48
            rw [iF] at H
            have H' := Aside0.mk H
            clear H
            obtain ⟨Ao55, co55, eo55⟩ := Kd.S_slice HO_9.out
            subst eo55
            go_wp2
            go_roundg k3
            case measure => have := HJ5.out; have := HK2.out; have := HK3.out; omega
            case rel => exact ⟨(x9_2), (wrap64 (x10_2 + 1)), eS, H', ⟨by have := HJ5.out; have := HK2.out; have := HK3.out; omega⟩, ⟨by (with_reducible repeat (first | apply Kd.S_alloc | apply Kd.S_drewN | apply Kd.S_drew)); exact Kd.S_mono HO_9.out (fun _ hk => ⟨hk.1, ⟨hk.2.1, ⟨hk.2.2.1, ⟨hk.2.2.2.1, ⟨hk.2.2.2.2.2.2.1, hk.2.2.2.2.2.2.2.1⟩⟩⟩⟩⟩)⟩, ⟨qT (Kd.Q_mono HO_463000.out (fun _ hk => ⟨hk.1, ⟨hk.2.1, hk.2.2.1⟩⟩))⟩, ⟨rT (Kd.R_mono HO_463001.out (fun _ hk => ⟨hk.1, ⟨hk.2.1, hk.2.2.1⟩⟩))⟩, ⟨rT (Kd.R_mono HO_473000.out (fun _ hk => ⟨hk.1, ⟨hk.2.1, hk.2.2.1⟩⟩))⟩, ⟨rT (Kd.R_mono HO_473001.out (fun _ hk => ⟨hk.1, ⟨hk.2.1, hk.2.2.1⟩⟩))⟩, ⟨kP BK462⟩, ⟨kP BK472⟩, ⟨bP HB⟩⟩
           subst c48
           rw [if_pos rfl] at H
           by_cases c49 : x9_2.length < 2932031007402
           case neg =>
            rw [if_neg c49] at H
            exact absurd H (by simp)
           rw [if_pos c49] at H
           have LMc49 := Aside0.mk c49
           clear c49
           obtain ⟨y487, hy487⟩ : ∃ y_ : List (S25), y_ = (x9_2 ++ [(⟨t477, t480⟩ : S25)]) := ⟨_, rfl⟩
           replace H : (laws_FnTurns.l0 k3 t463 (t456.length : Int) t471 y487 (wrap64 (x10_2 + 1)) t456 t459 t465 t468) = some r := by first | (rw [hy487]; with_reducible exact H) | (have H2_ := (Option.bind_some _ _).symm.trans H; rw [hy487]; with_reducible exact H2_) | (have H2_ := (Option.bind_some _ _).symm.trans H; with_reducible exact H2_) | with_reducible exact H | (rw [hy487]; exact H) | exact H
           have Ny487 := Aside0.mk hy487
           clear hy487
           have H' := Aside0.mk H
           clear H
           obtain ⟨Ao50, co50, eo50⟩ := Kd.S_slice HO_9.out
           subst eo50
           have hnb51 := NB484_462.out
           have hnc51 := NB462_484.out
           have hnb52 := NB484_472.out
           have hnc52 := NB472_484.out
           have hcz53_0 := zc0 BK484
           have hcz53_1 := zc1 BK484
           have hfz53_0 := blk_frozen BK484.out 0
           have hfz53_1 := blk_frozen BK484.out 1
           go_wp2_with (first | ((with_reducible refine gate_builtin (b := .append) (xs := #[.tmp 73, .tmp 75]) rfl ?_); (try (refine gate_guard (by rfl) ?_; dsimp only)); at_builtin; refine Kd.S_append k25 (w0 := w) w.heap.size rfl (.tmp 73) (.tmp 75) 30 25 (.agg #[(.slice none 0 0), (.slice none 0 0)]) 48 rfl Try.underlying30 info25 rfl (by decide) (by omega) (.slice Ao50 x9_2.length co50) x9_2 (⟨t477, t480⟩ : S25) [.slice Ao33 t477.length co33, .slice Ao37 t480.length co37] (fun k_ => oN k_ Ao9 t456 co9 ∧ oN k_ Ao11 t459 co11 ∧ oN k_ Ao21 t465 co21 ∧ oN k_ Ao24 t468 co24 ∧ k_ ≠ gb462 ∧ k_ ≠ gb472 ∧ k_ ≠ gb484) (fun k_ => some k_ = (.slice Ao33 t477.length co33 : Value).ownBlock ∨ some k_ = (.slice Ao37 t480.length co37 : Value).ownBlock) rfl rfl ?aP (fun k_ hk_ => hk_.elim (fun h_ => ((Kd.R_mono (ok' := fun k_ => ((fun k_ => oN k_ Ao9 t456 co9 ∧ oN k_ Ao11 t459 co11 ∧ oN k_ Ao21 t465 co21 ∧ oN k_ Ao24 t468 co24 ∧ k_ ≠ gb462 ∧ k_ ≠ gb472 ∧ k_ ≠ gb484)) k_ ∧ oN k_ Ao50 x9_2 co50) (Kd.R_types (Kd.R_types (Kd.R_types (Kd.R_apart' (HO_485000.out) (Kd.S_typed HO_9.out) (by decide)) BK462.out (by decide)) BK472.out (by decide)) BK484.out (by decide)) (fun k_ hk => ⟨⟨hk.1.1.1.1.1, ⟨hk.1.1.1.1.2.1, ⟨hk.1.1.1.1.2.2.1, ⟨hk.1.1.1.1.2.2.2.1, ⟨hk.1.1.2, ⟨hk.1.2, hk.2⟩⟩⟩⟩⟩⟩, hk.1.1.1.2⟩))).1 k_ h_.symm) (fun h_ => ((Kd.R_mono (ok' := fun k_ => ((fun k_ => oN k_ Ao9 t456 co9 ∧ oN k_ Ao11 t459 co11 ∧ oN k_ Ao21 t465 co21 ∧ oN k_ Ao24 t468 co24 ∧ k_ ≠ gb462 ∧ k_ ≠ gb472 ∧ k_ ≠ gb484)) k_ ∧ oN k_ Ao50 x9_2 co50) (Kd.R_types (Kd.R_types (Kd.R_types (Kd.R_apart' (HO_485001.out) (Kd.S_typed HO_9.out) (by decide)) BK462.out (by decide)) BK472.out (by decide)) BK484.out (by decide)) (fun k_ hk => ⟨⟨hk.1.1.1.1.1, ⟨hk.1.1.1.1.2.1, ⟨hk.1.1.1.1.2.2.1, ⟨hk.1.1.1.1.2.2.2.1, ⟨hk.1.1.2, ⟨hk.1.2, hk.2⟩⟩⟩⟩⟩⟩, hk.1.1.1.2⟩))).1 k_ h_.symm)) ?aF ?aO ?aB ?aS ?aL ?_; (case aP => exact k25_mkM _ _ _ (⟨t477, t480⟩ : S25) (Kd.R_mono (Kd.R_tight rfl (Kd.R_mono (ok' := fun k_ => ((fun k_ => oN k_ Ao9 t456 co9 ∧ oN k_ Ao11 t459 co11 ∧ oN k_ Ao21 t465 co21 ∧ oN k_ Ao24 t468 co24 ∧ k_ ≠ gb462 ∧ k_ ≠ gb472 ∧ k_ ≠ gb484)) k_ ∧ oN k_ Ao50 x9_2 co50) (Kd.R_types (Kd.R_types (Kd.R_types (Kd.R_apart' (HO_485000.out) (Kd.S_typed HO_9.out) (by decide)) BK462.out (by decide)) BK472.out (by decide)) BK484.out (by decide)) (fun k_ hk => ⟨⟨hk.1.1.1.1.1, ⟨hk.1.1.1.1.2.1, ⟨hk.1.1.1.1.2.2.1, ⟨hk.1.1.1.1.2.2.2.1, ⟨hk.1.1.2, ⟨hk.1.2, hk.2⟩⟩⟩⟩⟩⟩, hk.1.1.1.2⟩))) (fun _ h_ => Or.inl h_)) (Kd.R_mono (Kd.R_tight rfl (Kd.R_mono (ok' := fun k_ => ((fun k_ => oN k_ Ao9 t456 co9 ∧ oN k_ Ao11 t459 co11 ∧ oN k_ Ao21 t465 co21 ∧ oN k_ Ao24 t468 co24 ∧ k_ ≠ gb462 ∧ k_ ≠ gb472 ∧ k_ ≠ gb484)) k_ ∧ oN k_ Ao50 x9_2 co50) (Kd.R_types (Kd.R_types (Kd.R_types (Kd.R_apart' (HO_485001.out) (Kd.S_typed HO_9.out) (by decide)) BK462.out (by decide)) BK472.out (by decide)) BK484.out (by decide)) (fun k_ hk => ⟨⟨hk.1.1.1.1.1, ⟨hk.1.1.1.1.2.1, ⟨hk.1.1.1.1.2.2.1, ⟨hk.1.1.1.1.2.2.2.1, ⟨hk.1.1.2, ⟨hk.1.2, hk.2⟩⟩⟩⟩⟩⟩, hk.1.1.1.2⟩))) (fun _ h_ => Or.inr (h_)))); (case aB => exact (bP HB)); (case aF => exact (fun k_ hk => ⟨Kd.fresh' (Kd.Q_lt (qP HO_463000)) k_ hk, Kd.fresh' (Kd.R_lt (rP HO_463001)) k_ hk, Kd.fresh' (Kd.R_lt (rP HO_473000)) k_ hk, Kd.fresh' (Kd.R_lt (rP HO_473001)) k_ hk, Kd.freshB (g := gb462) (o := .cells #[.slice Ao9 t456.length co9, .slice Ao11 t459.length co11] 25 (0, 0)) (kP BK462) k_ hk, Kd.freshB (g := gb472) (o := .cells #[.slice Ao21 t465.length co21, .slice Ao24 t468.length co24] 25 (0, 0)) (kP BK472) k_ hk, Kd.freshB (g := gb484) (o := .cells #[.slice Ao33 t477.length co33, .slice Ao37 t480.length co37] 25 (0, 0)) (kP BK484) k_ hk⟩)); (case aO => exact (by (with_reducible repeat (first | apply Kd.S_alloc | apply Kd.S_drewN | apply Kd.S_drew)); exact Kd.S_mono HO_9.out (fun k_ hk => ⟨⟨hk.1, ⟨hk.2.1, ⟨hk.2.2.1, ⟨hk.2.2.2.1, ⟨hk.2.2.2.2.2.2.1, ⟨hk.2.2.2.2.2.2.2.1, hk.2.2.2.2.2.2.2.2⟩⟩⟩⟩⟩⟩, fun e_ => e_.elim (fun h_ => hk.2.2.2.2.1 h_) (fun h_ => hk.2.2.2.2.2.1 h_)⟩))); (case aS => exact (below_size (bP HB))); (case aL => have := LMc49.out; omega); intro v488 w54 ho hb hg hat; rw [← Ny487.out] at ho; replace HO_463000 := Aside0.mk (Kd.Q_over' (qP HO_463000) (Kd.S_typed (by (with_reducible repeat (first | apply Kd.S_alloc | apply Kd.S_drewN | apply Kd.S_drew)); exact HO_9.out)) (by decide) hg); replace HO_463001 := Aside0.mk (Kd.R_over' (rP HO_463001) (Kd.S_typed (by (with_reducible repeat (first | apply Kd.S_alloc | apply Kd.S_drewN | apply Kd.S_drew)); exact HO_9.out)) (by decide) hg); replace HO_473000 := Aside0.mk (Kd.R_over' (rP HO_473000) (Kd.S_typed (by (with_reducible repeat (first | apply Kd.S_alloc | apply Kd.S_drewN | apply Kd.S_drew)); exact HO_9.out)) (by decide) hg); replace HO_473001 := Aside0.mk (Kd.R_over' (rP HO_473001) (Kd.S_typed (by (with_reducible repeat (first | apply Kd.S_alloc | apply Kd.S_drewN | apply Kd.S_drew)); exact HO_9.out)) (by decide) hg); replace BK462 := Aside0.mk (blk_grown (g := gb462) (o := .cells #[.slice Ao9 t456.length co9, .slice Ao11 t459.length co11] 25 (0, 0)) (kP BK462) hg (Kd.S_away HO_9.out (fun _ hk => hk.2.2.2.2.2.2.1))); replace BK472 := Aside0.mk (blk_grown (g := gb472) (o := .cells #[.slice Ao21 t465.length co21, .slice Ao24 t468.length co24] 25 (0, 0)) (kP BK472) hg (Kd.S_away HO_9.out (fun _ hk => hk.2.2.2.2.2.2.2.1))); replace BK484 := Aside0.mk (blk_grown (g := gb484) (o := .cells #[.slice Ao33 t477.length co33, .slice Ao37 t480.length co37] 25 (0, 0)) (kP BK484) hg (Kd.S_away HO_9.out (fun _ hk => hk.2.2.2.2.2.2.2.2))); replace HB := Aside0.mk (hb); have HO489 := Aside0.mk (ho); clear HO_9; clear HO_485000; clear HO_485001; clear ho hb hg hat))
           go_roundg k3
           case measure => have := HJ5.out; have := HK2.out; have := HK3.out; omega
           case rel => exact ⟨(y487), (wrap64 (x10_2 + 1)), eS, H', ⟨by have := HJ5.out; have := HK2.out; have := HK3.out; omega⟩, ⟨by (with_reducible repeat (first | apply Kd.S_alloc | apply Kd.S_drewN | apply Kd.S_drew)); exact Kd.S_mono HO489.out (fun _ hk => ⟨hk.1, ⟨hk.2.1, ⟨hk.2.2.1, ⟨hk.2.2.2.1, ⟨hk.2.2.2.2.1, hk.2.2.2.2.2.1⟩⟩⟩⟩⟩)⟩, ⟨qT (Kd.Q_mono HO_463000.out (fun _ hk => ⟨hk.1, ⟨hk.2.1, hk.2.2.1⟩⟩))⟩, ⟨rT (Kd.R_mono HO_463001.out (fun _ hk => ⟨hk.1, ⟨hk.2.1, hk.2.2.1⟩⟩))⟩, ⟨rT (Kd.R_mono HO_473000.out (fun _ hk => ⟨hk.1, ⟨hk.2.1, hk.2.2.1⟩⟩))⟩, ⟨rT (Kd.R_mono HO_473001.out (fun _ hk => ⟨hk.1, ⟨hk.2.1, hk.2.2.1⟩⟩))⟩, ⟨kP BK462⟩, ⟨kP BK472⟩, ⟨bP HB⟩⟩
          rw [if_pos c38] at H
          have c38b0 : decide (x14_3 < (x9_2.length : Int)) = true := decide_eq_true c38
          clear c38
          by_cases c39 : x13_3 = true
          case neg =>
           replace c39 := Bool.eq_false_iff.mpr c39
           subst c39
           rw [iF] at H
           have H' := Aside0.mk H
           clear H
           obtain ⟨Ao45, co45, eo45⟩ := Kd.S_slice HO_9.out
           subst eo45
           try go_wp2
           replace HO_9 := Aside0.mk (Kd.S_drew HO_9.out)
           replace HO_463000 := Aside0.mk (Kd.Q_drew HO_463000.out)
           replace HO_463001 := Aside0.mk (Kd.R_drew HO_463001.out)
           replace HO_473000 := Aside0.mk (Kd.R_drew HO_473000.out)
           replace HO_473001 := Aside0.mk (Kd.R_drew HO_473001.out)
           replace HO_485000 := Aside0.mk (Kd.R_drew HO_485000.out)
           replace HO_485001 := Aside0.mk (Kd.R_drew HO_485001.out)
           replace BK462 := Aside0.mk (blk_drew BK462.out)
           replace BK472 := Aside0.mk (blk_drew BK472.out)
           replace BK484 := Aside0.mk (blk_drew BK484.out)
           replace HB := Aside0.mk (below_drew1 HB.out)
           refine start_ (n := 11) (S := fun w' => True) (ds := []) (tf 0 11) (by kernel_rfl) rfl rfl trivial (fun hHeld => ?_); refine with_tabW laws_FnTurns.tab19 laws_FnTurns.bits19 (fun HT_ HW_ => ?_)
           generalize wr.drew = w46 at HO_9 HO_463000 HO_463001 HO_473000 HO_473001 HO_485000 HO_485001 BK462 BK472 BK484 HB hHeld ⊢
           refine pV 0 60 (tf 1 10) HT_ ?_
           refine pV 1 61 (tf 2 9) HT_ ?_
           refine pU 2 62 (tf 3 8) HT_ ?_
           refine pU 3 63 (tf 4 7) HT_ ?_
           refine pU 4 64 (tf 5 6) HT_ ?_
           refine pU 5 65 (tf 6 5) HT_ ?_
           refine pU 6 66 (tf 7 4) HT_ ?_
           refine pU 7 67 (tf 8 3) HT_ ?_
           refine pU 8 68 (tf 9 2) HT_ ?_
           refine pV 9 69 (tf 10 1) HT_ ?_
           refine pV 10 13 (tf 11 0) HT_ ?_
           refine done_ (done_of HT_.out (by kernel_rfl)) ?_
           try go_wp2
           go_roundg k3
           case measure => have := HJ5.out; have := HK2.out; have := HK3.out; omega
           case rel => exact ⟨(false), (wrap64 (x14_3 + 1)), eS, eS, H', ⟨by have := HJ5.out; have := HK2.out; have := HK3.out; omega⟩, ⟨by (with_reducible repeat (first | apply Kd.S_alloc | apply Kd.S_drewN | apply Kd.S_drew)); exact HO_9.out⟩, ⟨qP HO_463000⟩, ⟨rP HO_463001⟩, ⟨rP HO_473000⟩, ⟨rP HO_473001⟩, ⟨rP HO_485000⟩, ⟨rP HO_485001⟩, ⟨kP BK462⟩, ⟨kP BK472⟩, ⟨kP BK484⟩, ⟨bP HB⟩⟩
          subst c39
          rw [if_pos rfl] at H
          by_cases c40 : 0 ≤ x14_3
          case neg =>
           rw [if_neg c40] at H
           exact absurd H (by simp)
          rw [if_pos c40] at H
          have c40b0 : decide (0 ≤ x14_3) = true := decide_eq_true c40
          clear c40
          obtain ⟨t486, A410, H⟩ := Option.bind_eq_some_iff.mp H
          have A41 := Aside0.mk A410
          clear A410
          have H' := Aside0.mk H
          clear H
          obtain ⟨Ao42, co42, eo42⟩ := Kd.S_slice HO_9.out
          subst eo42
          try go_wp2
          replace HO_9 := Aside0.mk (Kd.S_drew HO_9.out)
          replace HO_463000 := Aside0.mk (Kd.Q_drew HO_463000.out)
          replace HO_463001 := Aside0.mk (Kd.R_drew HO_463001.out)
          replace HO_473000 := Aside0.mk (Kd.R_drew HO_473000.out)
          replace HO_473001 := Aside0.mk (Kd.R_drew HO_473001.out)
          replace HO_485000 := Aside0.mk (Kd.R_drew HO_485000.out)
          replace HO_485001 := Aside0.mk (Kd.R_drew HO_485001.out)
          replace BK462 := Aside0.mk (blk_drew BK462.out)
          replace BK472 := Aside0.mk (blk_drew BK472.out)
          replace BK484 := Aside0.mk (blk_drew BK484.out)
          replace HB := Aside0.mk (below_drew1 HB.out)
          have p485 : 0 ≤ (x14_3 : Int) := dT
          have q485 : x14_3 < (x9_2.length : Int) := dT
          obtain ⟨ad485, A485_0, c485_0, A485_1, c485_1, e485, hx485_0, hx485_1, hl485_0, hi485_0, hl485_1, hi485_1⟩ := at_T25 (Kd.S_reads' HO_9.out).2.2 x14_3 p485 q485
          cases e485
          obtain ⟨ce485, hce485, hMe485, hcc485⟩ := Kd.S_get HO_9.out z25 x14_3 p485 (by first | exact q485 | exact dT | (have e_ := (Kd.S_reads' HO_9.out).1; omega))
          obtain ⟨ve485_0, ve485_1, rfl, ge485_0, ge485_1⟩ := k25_openM hMe485
          have hv485_0 := hcc485 0 _ rfl
          rw [Nat.add_zero] at hv485_0
          replace hv485_0 := Option.some.inj (hv485_0.symm.trans hx485_0)
          rw [hv485_0] at ge485_0
          have HL485_0 := Aside0.mk (show Kd.R (Kd.int .i64) 3 _ _ _ _ ((rd_T25 x9_2 x14_3).f0) from ge485_0)
          clear hv485_0 ge485_0
          have hv485_1 := hcc485 1 _ rfl
          rw [add_field _ _ 1 (by omega)] at hv485_1
          replace hv485_1 := Option.some.inj (hv485_1.symm.trans hx485_1)
          rw [hv485_1] at ge485_1
          have HL485_1 := Aside0.mk (show Kd.R (Kd.int .i64) 3 _ _ _ _ ((rd_T25 x9_2 x14_3).f1) from ge485_1)
          clear hv485_1 ge485_1 hcc485 hce485
          have HR485_0 := Aside0.mk hi485_0
          have HC485_0 := Aside0.mk hl485_0
          clear hi485_0 hl485_0
          have HR485_1 := Aside0.mk hi485_1
          have HC485_1 := Aside0.mk hl485_1
          clear hi485_1 hl485_1
          replace p485 := eq_true p485
          replace q485 := eq_true q485
          refine start_ (n := 11) (S := fun w' => w'.cell? ⟨gb484, 0, none⟩ = some (.slice Ao33 t477.length co33) ∧ w'.cell? ⟨gb484, 1, none⟩ = some (.slice Ao37 t480.length co37) ∧ w'.cell? (ad485.add ((x14_3).toNat * 2)) = some (.slice A485_0 ((rd_T25 x9_2 x14_3).f0).length c485_0) ∧ w'.cell? ⟨(ad485.add ((x14_3).toNat * 2)).block, (ad485.add ((x14_3).toNat * 2)).off + 1, none⟩ = some (.slice A485_1 ((rd_T25 x9_2 x14_3).f1).length c485_1)) (ds := []) (tf 0 11) (by kernel_rfl) rfl rfl ⟨(blk_cell BK484.out 0).trans rfl, (blk_cell BK484.out 1).trans rfl, hx485_0, hx485_1⟩ (fun hHeld => ?_); refine with_tabW laws_FnTurns.tab19 laws_FnTurns.bits19 (fun HT_ HW_ => ?_)
          generalize wr.drew = w43 at HO_9 HO_463000 HO_463001 HO_473000 HO_473001 HO_485000 HO_485001 BK462 BK472 BK484 HB HL485_0 HL485_1 HR485_0 HR485_1 hx485_0 hx485_1 hHeld ⊢
          refine pV 0 60 (tf 1 10) HT_ ?_
          refine pV 1 61 (tf 2 9) HT_ ?_
          refine pV 2 62 (tf 3 8) HT_ ?_
          refine pV 3 63 (tf 4 7) HT_ ?_
          refine pV 4 64 (tf 5 6) HT_ ?_
          refine tV 5 65 (tf 6 5) HT_ HW_ hHeld ?_
          refine tV 6 66 (tf 7 4) HT_ HW_ hHeld ?_
          refine eN 7 (some 67) (tf 8 3) HT_ (fun K hK => ?_)
          refine goes_ Try.func9 (by kernel_rfl) rfl #[.agg #[.slice A485_0 ((rd_T25 x9_2 x14_3).f0).length c485_0, .slice A485_1 ((rd_T25 x9_2 x14_3).f1).length c485_1], .agg #[.slice Ao33 t477.length co33, .slice Ao37 t480.length co37]] (by rfl) rfl rfl (by (try simp only [List.map_toArray, List.map_cons, List.map_nil]); first | done | rfl | (simp only [List.length_drop, List.length_take]; rfl)) ?_
          with_reducible refine (laws_sameMap.calls k3 _ _ ((rd_T25 x9_2 x14_3).f0) _ _ ((rd_T25 x9_2 x14_3).f1) _ _ t477 _ _ t480 t486 _ ?side1 ?side2 ?side3 ?side4 ?side5 ?side6 ?side7 ?side8 A41.out).mono ?_
          (case side1 => exact cP (by repeat (first | (with_reducible exact HR485_0.out) | (with_reducible refine Kd.C_alloc ?_ _) | (with_reducible refine Kd.C_drewN ?_ _) | (with_reducible refine Kd.C_drew ?_) | exact HR485_0.out)))
          (case side2 => exact HC485_0.out)
          (case side3 => exact cP (by repeat (first | (with_reducible exact HR485_1.out) | (with_reducible refine Kd.C_alloc ?_ _) | (with_reducible refine Kd.C_drewN ?_ _) | (with_reducible refine Kd.C_drew ?_) | exact HR485_1.out)))
          (case side4 => exact HC485_1.out)
          (case side5 => exact cP (Kd.R_reads' HO_485000.out).2.2)
          (case side6 => exact (Kd.R_reads' HO_485000.out).2.1)
          (case side7 => exact cP (Kd.R_reads' HO_485001.out).2.2)
          (case side8 => exact (Kd.R_reads' HO_485001.out).2.1)
          rintro e w44 ⟨rfl, hb⟩
          have HS2_ := (hb.cell (World.block_lt_of_cell? _ _ (hHeld.2.2.1))).trans (hHeld.2.2.1)
          have HS3_ := (hb.cell (World.block_lt_of_cell? _ _ (hHeld.2.2.2))).trans (hHeld.2.2.2)
          refine ⟨_, rfl, ?_⟩
          have n0_ := Aside0.mk (Kd.S_below (by (with_reducible repeat (first | apply Kd.S_alloc | apply Kd.S_drewN | apply Kd.S_drew)); exact HO_9.out) hb)
          have n1_ := Aside0.mk (Kd.Q_below (qP HO_463000) hb)
          have n2_ := rB HO_463001 hb
          have n3_ := rB HO_473000 hb
          have n4_ := rB HO_473001 hb
          have n5_ := rB HO_485000 hb
          have n6_ := rB HO_485001 hb
          have n7_ := rB HL485_0 hb
          have n8_ := rB HL485_1 hb
          have n9_ := kB BK462 hb
          have n10_ := kB BK472 hb
          have n11_ := kB BK484 hb
          have n12_ := Aside0.mk (Kd.C_below (by repeat (first | (with_reducible exact HR485_0.out) | (with_reducible refine Kd.C_alloc ?_ _) | (with_reducible refine Kd.C_drewN ?_ _) | (with_reducible refine Kd.C_drew ?_) | exact HR485_0.out)) hb)
          have n13_ := Aside0.mk (Kd.C_below (by repeat (first | (with_reducible exact HR485_1.out) | (with_reducible refine Kd.C_alloc ?_ _) | (with_reducible refine Kd.C_drewN ?_ _) | (with_reducible refine Kd.C_drew ?_) | exact HR485_1.out)) hb)
          have n14_ := bS HB hb
          clear HO_9 HO_463000 HO_463001 HO_473000 HO_473001 HO_485000 HO_485001 HL485_0 HL485_1 BK462 BK472 BK484 HR485_0 HR485_1 HB
          have HO_9 := n0_
          have HO_463000 := n1_
          have HO_463001 := n2_
          have HO_473000 := n3_
          have HO_473001 := n4_
          have HO_485000 := n5_
          have HO_485001 := n6_
          have HL485_0 := n7_
          have HL485_1 := n8_
          have BK462 := n9_
          have BK472 := n10_
          have BK484 := n11_
          have HR485_0 := n12_
          have HR485_1 := n13_
          have HB := n14_
          clear n0_ n1_ n2_ n3_ n4_ n5_ n6_ n7_ n8_ n9_ n10_ n11_ n12_ n13_ n14_
          (try clear hb)
          (try clear hb2)
          (try clear hk)
          (try clear hi)
          refine hK.out _ _ ⟨(blk_cell BK484.out 0).trans rfl, (blk_cell BK484.out 1).trans rfl, HS2_, HS3_⟩ (fun hHeld => ?_)
          clear hK K
          refine norm_ (a' := ?_) ?_ ?_
          rotate_left
          ·show Act.put _ (some 67) _ = _
           simp only [Act.put, List.setIfInBounds_toArray, List.set_cons_zero, List.set_cons_succ, i64_w, i32_w]
           rfl
          refine pV 8 68 (tf 9 2) HT_ ?_
          refine pV 9 69 (tf 10 1) HT_ ?_
          refine pV 10 13 (tf 11 0) HT_ ?_
          refine done_ (done_of HT_.out (by kernel_rfl)) ?_
          try go_wp2
          go_roundg k3
          case measure => have := HJ5.out; have := HK2.out; have := HK3.out; omega
          case rel => exact ⟨(!t486), (wrap64 (x14_3 + 1)), eS, eS, H', ⟨by have := HJ5.out; have := HK2.out; have := HK3.out; omega⟩, ⟨by (with_reducible repeat (first | apply Kd.S_alloc | apply Kd.S_drewN | apply Kd.S_drew)); exact HO_9.out⟩, ⟨qP HO_463000⟩, ⟨rP HO_463001⟩, ⟨rP HO_473000⟩, ⟨rP HO_473001⟩, ⟨rP HO_485000⟩, ⟨rP HO_485001⟩, ⟨kP BK462⟩, ⟨kP BK472⟩, ⟨kP BK484⟩, ⟨bP HB⟩⟩
       ·rw [if_neg c27] at H
        have c27b0 : decide (x10_2 < (t456.length : Int)) = false := decide_eq_false c27
        clear c27
        by_cases c56 : t471 = true
        ·subst c56
         rw [if_pos rfl] at H
         by_cases c57 : t463 ≥ 1
         case neg =>
          rw [if_neg c57] at H
          have c57b0 : decide (1 ≤ t463) = false := decide_eq_false c57
          clear c57
          exact absurd ((Option.some.inj H).trans hr_.out) (by decide)
         rw [if_pos c57] at H
         have c57b0 : decide (1 ≤ t463) = true := decide_eq_true c57
         clear c57
         by_cases c58 : t463 = 0
         ·rw [if_pos c58] at H
          exact absurd H (by simp)
         rw [if_neg c58] at H
         have c58b0 : (t463 == 0) = false := beq_eq_false_iff_ne.mpr c58
         have c58b1 : (t463 != 0) = true := bne_iff_ne.mpr c58
         by_cases c59 : (Int.tmod (t456.length : Int) t463) = 0
         case neg =>
          rw [if_neg c59] at H
          have c59b0 : ((Int.tmod (t456.length : Int) t463) == 0) = false := beq_eq_false_iff_ne.mpr c59
          have c59b1 : ((Int.tmod (t456.length : Int) t463) != 0) = true := bne_iff_ne.mpr c59
          exact absurd ((Option.some.inj H).trans hr_.out) (by decide)
         rw [if_pos c59] at H
         have c59b0 : ((Int.tmod (t456.length : Int) t463) == 0) = true := beq_iff_eq.mpr c59
         have c59b1 : ((Int.tmod (t456.length : Int) t463) != 0) = false := bne_eq_false_iff_eq.mpr c59
         have c59b2 : ((t456.length : Int) % t463) = 0 := by rw [← Int.tmod_eq_emod_of_nonneg (Int.natCast_nonneg _)]; exact c59
         have c59b3 : (((t456.length : Int) % t463) == 0) = true := beq_iff_eq.mpr c59b2
         clear c59
         by_cases c60 : (x9_2.length : Int) = (wrap64 (Int.tdiv (t456.length : Int) t463))
         case neg =>
          rw [if_neg c60] at H
          have c60b0 : ((x9_2.length : Int) == (wrap64 (Int.tdiv (t456.length : Int) t463))) = false := beq_eq_false_iff_ne.mpr c60
          have c60b1 : ((x9_2.length : Int) != (wrap64 (Int.tdiv (t456.length : Int) t463))) = true := bne_iff_ne.mpr c60
          exact absurd ((Option.some.inj H).trans hr_.out) (by decide)
         rw [if_pos c60] at H
         have c60b0 : ((x9_2.length : Int) == (wrap64 (Int.tdiv (t456.length : Int) t463))) = true := beq_iff_eq.mpr c60
         have c60b1 : ((x9_2.length : Int) != (wrap64 (Int.tdiv (t456.length : Int) t463))) = false := bne_eq_false_iff_eq.mpr c60
         have c60b2 : (x9_2.length : Int) = wrap64 ((t456.length : Int) / t463) := by rw [← Int.tdiv_eq_ediv_of_nonneg (Int.natCast_nonneg _)]; exact c60
         have c60b3 : ((x9_2.length : Int) == wrap64 ((t456.length : Int) / t463)) = true := beq_iff_eq.mpr c60b2
         clear c60
         obtain ⟨t476, A610, H⟩ := Option.bind_eq_some_iff.mp H
         have A61 := Aside0.mk A610
         clear A610
         obtain rfl := Option.some.inj H
         obtain ⟨Ao62, co62, eo62⟩ := Kd.S_slice HO_9.out
         subst eo62
         have hnb63 := NB472_462.out
         have hnc63 := NB462_472.out
         have hcz64_0 := zc0 BK472
         have hcz64_1 := zc1 BK472
         have hfz64_0 := blk_frozen BK472.out 0
         have hfz64_1 := blk_frozen BK472.out 1
         go_wp2_with (first | (go_at_call 5; (with_reducible refine (impl_MapTurns.calls k2 _ _ t465 _ _ t468 t476 _ ?side1 ?side2 ?side3 ?side4 A61.out).mono ?_); (case side1 => exact cP (Kd.R_reads' HO_473000.out).2.2); (case side2 => exact (Kd.R_reads' HO_473000.out).2.1); (case side3 => exact cP (Kd.R_reads' HO_473001.out).2.2); (case side4 => exact (Kd.R_reads' HO_473001.out).2.1); rintro e w65 ⟨rfl, hb⟩; replace HO_9 := Aside0.mk (Kd.S_below (by (with_reducible repeat (first | apply Kd.S_alloc | apply Kd.S_drewN | apply Kd.S_drew)); exact HO_9.out) hb); replace HO_463000 := Aside0.mk (Kd.Q_below (qP HO_463000) hb); replace HO_463001 := rB HO_463001 hb; replace HO_473000 := rB HO_473000 hb; replace HO_473001 := rB HO_473001 hb; replace BK462 := kB BK462 hb; replace BK472 := kB BK472 hb; replace HB := bS HB hb; (try clear hb); (try clear hb2); (try clear hk); (try clear hi)))
         go_ret
         exact ⟨eR, bP HB⟩
        ·replace c56 := Bool.eq_false_iff.mpr c56
         subst c56
         rw [iF] at H
         exact absurd ((Option.some.inj H).trans hr_.out) (by decide)

/-- THE ONE PURE STATEMENT of laws_FnTurns: yours. -/
def laws_FnTurns.Pure : Prop := ∀ (l0 : List Int), l0.length ≤ maxLen → l0.length * 1 ≤ 140737488351232 → (∀ x ∈ l0, (Lit.int .u8 x).wf = true) → ∃ k, laws_FnTurns.f k l0 = some true
theorem laws_FnTurns.walk (P : laws_FnTurns.Pure) (a0 : Option Addr) (len0 cap0 : Nat) (z0 : List Int) (w : World) (w0 : (a0 = none ∧ len0 = 0 ∧ cap0 = 0 ∧ z0 = []) ∨ ∃ x, a0 = some x ∧ len0 ≤ cap0 ∧ cap0 ≤ maxLen ∧ z0.length = cap0 ∧ (∀ i, i < z0.length → w.cell? (x.add i) = some (.int .u8 (z0.getD i 0))) ∧ ∀ n ∈ z0, (Lit.int .u8 n).wf = true) (y0 : len0 * 1 ≤ 140737488351232) :
 Calls Try.prog 3 #[.slice a0 len0 cap0] w fun e w' => e = .returned (.bool true) ∧ Below w.heap.size w w' := by
 obtain ⟨l0, rfl, hr0, hm0, hw0, hc0⟩ := ReadsInt.ofRowC w0
 obtain ⟨k, h⟩ := P l0 hm0 y0 hw0
 refine (laws_FnTurns.calls k _ _ l0 true w (Kd.C_of_reads (d := (0 : Int)) (h1 := fun _ => rfl) hr0) hc0 ⟨rfl⟩ h).mono ?_
 rintro e w' ⟨rfl, hd⟩
 exact ⟨rfl, hd⟩

end Go.Proofs.Ytjnbbnaidjodlaa.F
