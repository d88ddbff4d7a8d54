/- Contracts: what these Go functions return. -/
import Derived.Test.YtjnbbnaidjodlaaF0
import Derived.Test.YtjnbbnaidjodlaaF1
import Derived.Test.YtjnbbnaidjodlaaF2
import Derived.Test.YtjnbbnaidjodlaaF9
namespace Go.Proofs.Ytjnbbnaidjodlaa.F
open Go.RowKit Go.Proofs.YtjnbbnaidjodlaaW.PrintWords Go.Proofs.YtjnbbnaidjodlaaW.PrintLast Go.Proofs.YtjnbbnaidjodlaaW.PrintMore
attribute [local go_sem] max2_int min2_int max_two min_two max_three min_three max_four min_four
set_option linter.unusedVariables false
set_option linter.unusedSimpArgs false

/-! ### spec_DrawMapTurns: function 4 -/
mutual
def spec_DrawMapTurns.l0 : Nat → Int → List Int → Int → Option (List Int × List Int)
 | 0, _, _, _ => none
 | k + 1, x4, x5, x6 => if x6 < (wrap64 (2 * x4)) then (if (wrap64 (2 * x4)) = 0 then (none) else (if x5.length < 17592186044416 then (spec_DrawMapTurns.l0 k x4 (x5 ++ [Int.tmod (wrap64 (x6 + 1)) (wrap64 (2 * x4))]) (wrap64 (x6 + 1))) else (none))) else (spec_DrawMapTurns.l1 k x4 x5 (([] : List Int)) 0)
def spec_DrawMapTurns.l1 : Nat → Int → List Int → List Int → Int → Option (List Int × List Int)
 | 0, _, _, _, _ => none
 | k + 1, x4, x5, x7, x8 => if x8 < (wrap64 (2 * x4)) then (if (wrap64 (2 * x4)) = 0 then (none) else (if x7.length < 17592186044416 then (spec_DrawMapTurns.l1 k x4 x5 (x7 ++ [Int.tmod (wrap64 (x8 + x4)) (wrap64 (2 * x4))]) (wrap64 (x8 + 1))) else (none))) else (some (x5, x7))
end
def spec_DrawMapTurns.f (k : Nat) (l0 : List Int) : Option (List Int × List Int) := (spec_l6Open.f l0).bind fun bt193 => ((spec_l6Rd_pick.f k bt193.1 bt193.2 3).bind fun bt196 => (if bt196.1 = 0 then ((spec_l6Rd_pick.f k bt193.1 bt196.2 5).bind fun bt198 => (spec_DrawMapTurns.l0 k (wrap64 (1 + bt198.1)) (([] : List Int)) 0)) else ((spec_l91Map.f k bt193.1 bt196.2 4).bind fun bt212 => (some (bt212.1, bt212.2.1)))))
set_option maxHeartbeats 8000000 in
set_option maxRecDepth 100000 in
theorem spec_DrawMapTurns.calls (k : Nat) (A0 : Option Addr) (c0 : Nat) (l0 : List Int) (r1 : List Int) (r2 : List Int) (w : World) (hr0 : Kd.C (Kd.int .u8) w A0 l0.length l0) (hc0 : l0.length ≤ c0) (h : spec_DrawMapTurns.f k l0 = some (r1, r2)) :
 Calls Try.prog 4 #[.slice A0 l0.length c0] w fun e w' => ∃ v0_ v1_ : Value, e = .returned (.agg #[v0_, v1_]) ∧ Kd.Q (Kd.int .i64) 3 w' w.heap.size (fun k_ => some k_ ≠ (v1_ : Value).ownBlock) v0_ r1 ∧ Kd.R (Kd.int .i64) 3 w' w.heap.size (fun k_ => some k_ ≠ (v0_ : Value).ownBlock) v1_ r2 ∧ Below w.heap.size w w' := by
 have hu25 := Try.underlying25
 have HR0 := Aside0.mk hr0
 have HC0 := Aside0.mk hc0
 clear hr0 hc0
 have HB := Aside0.mk (Below.refl w.heap.size w)
 have H : ((spec_l6Open.f l0).bind fun bt193 => ((spec_l6Rd_pick.f k bt193.1 bt193.2 3).bind fun bt196 => (if bt196.1 = 0 then ((spec_l6Rd_pick.f k bt193.1 bt196.2 5).bind fun bt198 => (spec_DrawMapTurns.l0 k (wrap64 (1 + bt198.1)) (([] : List Int)) 0)) else ((spec_l91Map.f k bt193.1 bt196.2 4).bind fun bt212 => (some (bt212.1, bt212.2.1)))))) = some (r1, r2) := h
 clear h
 obtain ⟨⟨t193, t194⟩, A20, H⟩ := Option.bind_eq_some_iff.mp H
 dsimp only at H
 have A2 := Aside0.mk A20
 clear A20
 obtain ⟨⟨t196, t197⟩, A30, H⟩ := Option.bind_eq_some_iff.mp H
 dsimp only at H
 have A3 := Aside0.mk A30
 clear A30
 by_cases c4 : t196 = 0
 ·rw [if_pos c4] at H
  have c4b0 : (t196 == 0) = true := beq_iff_eq.mpr c4
  have c4b1 : (t196 != 0) = false := bne_eq_false_iff_eq.mpr c4
  clear c4
  obtain ⟨⟨t198, t199⟩, A50, H⟩ := Option.bind_eq_some_iff.mp H
  dsimp only at H
  have A5 := Aside0.mk A50
  clear A50
  obtain ⟨y200, hy200⟩ : ∃ y_ : List Int, y_ = (([] : List Int)) := ⟨_, rfl⟩
  replace H : (spec_DrawMapTurns.l0 k (wrap64 (1 + t198)) y200 0) = some (r1, r2) := by first | (rw [hy200]; with_reducible exact H) | (have H2_ := (Option.bind_some _ _).symm.trans H; rw [hy200]; with_reducible exact H2_) | (have H2_ := (Option.bind_some _ _).symm.trans H; with_reducible exact H2_) | with_reducible exact H | (rw [hy200]; exact H) | exact H
  have Ny200 := Aside0.mk hy200
  clear hy200
  have H' := Aside0.mk H
  clear H
  go_enter Try.func4, Try.ntmps4
  go_wp2_with (first | ((with_reducible refine gate_dst (N := 2) rfl ?_); refine bE 2 #[.slice none 0 0, .slice none 0 0] 25 ?_; intro gb192 hg w6 hbox hb; have BK192 := Aside0.mk (hbox); have GW192 := gS HB hg; have GE192 := gS HB hg; replace HB := bS HB hb; clear hb hbox hg) | ((with_reducible refine gate_callee (f := 10) rfl ?_); refine gL (some 10) Try.func10 #[.slice A0 l0.length c0] ?_; (with_reducible refine (spec_l6Open.calls _ _ l0 t193 t194 w _ ?side1 ?side2 ?side3 A2.out).mono ?_); (case side1 => exact bP HB); (case side2 => exact HR0.out); (case side3 => exact HC0.out); rintro e w7 ⟨g195, rfl, hi, hb, hb2⟩; refine ⟨_, rfl, ?_⟩; replace HB := Aside0.mk (hb); have HI195 := Aside0.mk (hi); have NB195_192 := Aside0.mk (IsS47.ne_blk hi (blk_below (kP BK192) hb2) (by decide)); have NB192_195 := Aside0.mk (Ne.symm (IsS47.ne_blk hi (blk_below (kP BK192) hb2) (by decide))); replace BK192 := kB BK192 hb2; (try clear hb); (try clear hb2); (try clear hk); (try clear hi)) | ((with_reducible refine gate_callee (f := 11) rfl ?_); refine gL (some 12) Try.func11 #[.pointer (some ⟨g195, 0, none⟩), .int .i64 3] ?_; (with_reducible refine (spec_l6Rd_pick.calls k g195 t193 t194 3 t196 t197 w _ ?side1 ?side2 A3.out).mono ?_); (case side1 => repeat (first | (with_reducible first | exact HI195.out | apply IsS47.alloc | apply IsS47.drewN | apply IsS47.drew | apply IsS47.set_1 | refine IsS47.far ?_ NB195_192.out _) | exact HI195.out)); (case side2 => repeat (first | (with_reducible first | exact HB.out | apply below_alloc | apply pw_below_drewN | apply below_drew1 | refine below_set ?_ (IsS47.ge HI195.out) | refine below_set ?_ GE192.out) | exact HB.out)); rintro e w8 ⟨rfl, hi, hb, hk⟩; refine ⟨_, rfl, ?_⟩; replace BK192 := Aside0.mk (KeepBut.blk hk (g' := gb192) (o := .cells #[.slice none 0 0, .slice none 0 0] 25 (0, 0)) (kP BK192) NB192_195.out (by simp)); replace HB := Aside0.mk (hb); replace HI195 := Aside0.mk (hi); (try clear hb); (try clear hb2); (try clear hk); (try clear hi)) | ((with_reducible refine gate_callee (f := 11) rfl ?_); refine gL (some 15) Try.func11 #[.pointer (some ⟨g195, 0, none⟩), .int .i64 5] ?_; (with_reducible refine (spec_l6Rd_pick.calls k g195 t193 t197 5 t198 t199 w _ ?side1 ?side2 A5.out).mono ?_); (case side1 => repeat (first | (with_reducible first | exact HI195.out | apply IsS47.alloc | apply IsS47.drewN | apply IsS47.drew | apply IsS47.set_1 | refine IsS47.far ?_ NB195_192.out _) | exact HI195.out)); (case side2 => repeat (first | (with_reducible first | exact HB.out | apply below_alloc | apply pw_below_drewN | apply below_drew1 | refine below_set ?_ (IsS47.ge HI195.out) | refine below_set ?_ GE192.out) | exact HB.out)); rintro e w9 ⟨rfl, hi, hb, hk⟩; refine ⟨_, rfl, ?_⟩; replace BK192 := Aside0.mk (KeepBut.blk hk (g' := gb192) (o := .cells #[.slice none 0 0, .slice none 0 0] 25 (0, 0)) (kP BK192) NB192_195.out (by simp)); replace HB := Aside0.mk (hb); replace HI195 := Aside0.mk (hi); (try clear hb); (try clear hb2); (try clear hk); (try clear hi)) | ((with_reducible refine gate_dst (N := 17) rfl ?_); refine Kd.R_lit (Kd.int .i64) _ 3 ?hg (N := 17) ?hd (xs := ([] : List Int)) (inner := []) (ok := fun _ => True) (okp := fun _ => True) ?hr ?hp (fun _ hk => hk) trivial (Below.refl _ _) (Nat.le_refl _) (by simp) ?_; (case hd => rfl); (case hg => rfl); (case hr => first | (go_simp; done) | (go_simp; rfl)); (case hp => exact (Reps.none _ _)); intro v201 w10 ho11 hb hg_ hnew_; clear hg_ hnew_; (first | rw [← Ny200.out] at ho11 | (simp only [Int.reduceToNat] at ho11; rw [← Ny200.out] at ho11)); have HO202 := Aside0.mk (Kd.R_lower ho11 (below_size (by repeat (first | (with_reducible first | exact HB.out | apply below_alloc | apply pw_below_drewN | apply below_drew1 | refine below_set ?_ (IsS47.ge HI195.out) | refine below_set ?_ GE192.out) | exact HB.out)))); replace BK192 := kB BK192 hb; replace HB := Aside0.mk (below_step (by repeat (first | (with_reducible first | exact HB.out | apply below_alloc | apply pw_below_drewN | apply below_drew1 | refine below_set ?_ (IsS47.ge HI195.out) | refine below_set ?_ GE192.out) | exact HB.out)) hb); replace HI195 := Aside0.mk (IsS47.below (by repeat (first | (with_reducible first | exact HI195.out | apply IsS47.alloc | apply IsS47.drewN | apply IsS47.drew | apply IsS47.set_1 | refine IsS47.far ?_ NB195_192.out _) | exact HI195.out)) hb); clear hb ho11))
  go_loopg [5, 6] k (fun kq v5 v6 w' => ∃ (x5_1 : List Int) (x6_1 : Int), v6 = .int .i64 x6_1 ∧ Aside0 (spec_DrawMapTurns.l0 kq (wrap64 (1 + t198)) x5_1 x6_1 = some (r1, r2)) ∧ Aside0 (kq ≤ k) ∧ Aside0 (Kd.R (Kd.int .i64) 3 w' w.heap.size (fun _ => True) v5 x5_1) ∧ Aside0 (w'.heap[gb192]? = some (.cells #[(.slice none 0 0), (.slice none 0 0)] 25 (0, 0))) ∧ Aside0 (Below w.heap.size w w'))
  case atStart => exact ⟨(y200), (0), eS, H', ⟨Nat.le_refl _⟩, ⟨rP HO202⟩, ⟨kP BK192⟩, ⟨by repeat (first | (with_reducible first | exact HB.out | apply below_alloc | apply pw_below_drewN | apply below_drew1 | refine below_set ?_ (IsS47.ge HI195.out) | refine below_set ?_ GE192.out) | exact HB.out)⟩⟩
  case round =>
   clear H'
   try clear c1
   try clear p2
   try clear c4
   try clear c4b0
   try clear c4b1
   try clear p6
   try clear c10
   try clear c11
   obtain ⟨x5_1, x6_1, rfl, HA, HK1, HO_5, BK192, HB⟩ := hrel
   cases gk with
   | zero => exact absurd HA.out (by simp [spec_DrawMapTurns.l0])
   | succ k1 =>
    have H := HA.out
    clear HA
    simp only [spec_DrawMapTurns.l0] at H
    by_cases c12 : x6_1 < (wrap64 (2 * (wrap64 (1 + t198))))
    ·rw [if_pos c12] at H
     have c12b0 : decide (x6_1 < (wrap64 (2 * (wrap64 (1 + t198))))) = true := decide_eq_true c12
     clear c12
     by_cases c13 : (wrap64 (2 * (wrap64 (1 + t198)))) = 0
     ·rw [if_pos c13] at H
      exact absurd H (by simp)
     rw [if_neg c13] at H
     have c13b0 : ((wrap64 (2 * (wrap64 (1 + t198)))) == 0) = false := beq_eq_false_iff_ne.mpr c13
     have c13b1 : ((wrap64 (2 * (wrap64 (1 + t198)))) != 0) = true := bne_iff_ne.mpr c13
     by_cases c14 : x5_1.length < 17592186044416
     case neg =>
      rw [if_neg c14] at H
      exact absurd H (by simp)
     rw [if_pos c14] at H
     have LMc14 := Aside0.mk c14
     clear c14
     obtain ⟨y203, hy203⟩ : ∃ y_ : List Int, y_ = (x5_1 ++ [Int.tmod (wrap64 (x6_1 + 1)) (wrap64 (2 * (wrap64 (1 + t198))))]) := ⟨_, rfl⟩
     replace H : (spec_DrawMapTurns.l0 k1 (wrap64 (1 + t198)) y203 (wrap64 (x6_1 + 1))) = some (r1, r2) := by first | (rw [hy203]; with_reducible exact H) | (have H2_ := (Option.bind_some _ _).symm.trans H; rw [hy203]; with_reducible exact H2_) | (have H2_ := (Option.bind_some _ _).symm.trans H; with_reducible exact H2_) | with_reducible exact H | (rw [hy203]; exact H) | exact H
     have Ny203 := Aside0.mk hy203
     clear hy203
     have H' := Aside0.mk H
     clear H
     go_wp2_with (first | ((with_reducible refine gate_builtin (b := .append) (xs := #[.tmp 24, .tmp 30]) rfl ?_); at_builtin; refine Kd.R_append (Kd.int .i64) (w0 := w) w.heap.size rfl (.tmp 24) (.tmp 30) 23 3 (.int .i64 0) 8 rfl Try.underlying23 info3 rfl (by decide) (by omega) u5 x5_1 (Int.tmod (wrap64 (x6_1 + 1)) (wrap64 (2 * (wrap64 (1 + t198))))) [.int .i64 (Int.tmod (wrap64 (x6_1 + 1)) (wrap64 (2 * (wrap64 (1 + t198)))))] (fun _ => True) (fun _ => False) rfl rfl ?aP (fun _ hk => hk.elim) ?aF ?aO ?aB ?aS ?aL ?_; (case aP => exact rfl); (case aB => exact (bP HB)); (case aF => exact (fun _ _ => trivial)); (case aO => exact (rP HO_5)); (case aS => exact (below_size (bP HB))); (case aL => have := LMc14.out; omega); intro v204 w15 ho hb hg hat; rw [← Ny203.out] at ho; replace BK192 := Aside0.mk (blk_grown (g := gb192) (o := .cells #[.slice none 0 0, .slice none 0 0] 25 (0, 0)) (kP BK192) hg (Kd.R_ne HO_5.out BK192.out (by decide))); replace HB := Aside0.mk (hb); have HO205 := Aside0.mk (ho); clear HO_5; clear ho hb hg hat))
     go_roundg k1
     case measure => have := HK1.out; omega
     case rel => exact ⟨(y203), (wrap64 (x6_1 + 1)), eS, H', ⟨by have := HK1.out; omega⟩, ⟨rP HO205⟩, ⟨kP BK192⟩, ⟨bP HB⟩⟩
    rw [if_neg c12] at H
    have c12b0 : decide (x6_1 < (wrap64 (2 * (wrap64 (1 + t198))))) = false := decide_eq_false c12
    clear c12
    obtain ⟨y206, hy206⟩ : ∃ y_ : List Int, y_ = (([] : List Int)) := ⟨_, rfl⟩
    replace H : (spec_DrawMapTurns.l1 k1 (wrap64 (1 + t198)) x5_1 y206 0) = some (r1, r2) := by first | (rw [hy206]; with_reducible exact H) | (have H2_ := (Option.bind_some _ _).symm.trans H; rw [hy206]; with_reducible exact H2_) | (have H2_ := (Option.bind_some _ _).symm.trans H; with_reducible exact H2_) | with_reducible exact H | (rw [hy206]; exact H) | exact H
    have Ny206 := Aside0.mk hy206
    clear hy206
    have H' := Aside0.mk H
    clear H
    go_wp2_with (first | ((with_reducible refine gate_dst (N := 32) rfl ?_); refine Kd.R_lit (Kd.int .i64) _ 3 ?hg (N := 32) ?hd (xs := ([] : List Int)) (inner := []) (ok := fun _ => True) (okp := fun _ => True) ?hr ?hp (fun _ hk => hk) trivial (Below.refl _ _) (Nat.le_refl _) (by simp) ?_; (case hd => rfl); (case hg => rfl); (case hr => first | (go_simp; done) | (go_simp; rfl)); (case hp => exact (Reps.none _ _)); intro v207 w16 ho17 hb hg_ hnew_; clear hg_ hnew_; (first | rw [← Ny206.out] at ho17 | (simp only [Int.reduceToNat] at ho17; rw [← Ny206.out] at ho17)); have HO208 := Aside0.mk (Kd.R_lower (Kd.R_new' ho17 (Kd.R_lt (rP HO_5))) (below_size (bP HB))); replace HO_5 := Aside0.mk (Kd.R_elder' (rP HO_5) (Kd.R_base ho17) hb); replace BK192 := kB BK192 hb; replace HB := bS HB hb; clear hb ho17))
    go_loopg [7, 8] k1 (fun kq v7 v8 w' => ∃ (x7_2 : List Int) (x8_2 : Int), v8 = .int .i64 x8_2 ∧ Aside0 (spec_DrawMapTurns.l1 kq (wrap64 (1 + t198)) x5_1 x7_2 x8_2 = some (r1, r2)) ∧ Aside0 (kq ≤ k1) ∧ Aside0 (Kd.R (Kd.int .i64) 3 w' w.heap.size (fun k_ => some k_ ≠ (v7 : Value).ownBlock) u5 x5_1) ∧ Aside0 (Kd.R (Kd.int .i64) 3 w' w.heap.size (fun k_ => some k_ ≠ (u5 : Value).ownBlock) v7 x7_2) ∧ Aside0 (w'.heap[gb192]? = some (.cells #[(.slice none 0 0), (.slice none 0 0)] 25 (0, 0))) ∧ Aside0 (Below w.heap.size w w'))
    case atStart => exact ⟨(y206), (0), eS, H', ⟨Nat.le_refl _⟩, ⟨rT (Kd.R_mono HO_5.out (fun _ hk => hk.2))⟩, ⟨rT (Kd.R_mono HO208.out (fun _ hk => hk.2))⟩, ⟨kP BK192⟩, ⟨bP HB⟩⟩
    case round =>
     clear H'
     try clear c1
     try clear p2
     try clear c4
     try clear c4b0
     try clear c4b1
     try clear p6
     try clear c10
     try clear c11
     try clear c12
     try clear c12b0
     try clear c13
     try clear c13b0
     try clear c13b1
     try clear c14
     try clear p2
     try clear p6
     obtain ⟨x7_2, x8_2, rfl, HA, HK2, HO_5, HO_7, BK192, HB⟩ := hrel
     cases gk with
     | zero => exact absurd HA.out (by simp [spec_DrawMapTurns.l1])
     | succ k2 =>
      have H := HA.out
      clear HA
      simp only [spec_DrawMapTurns.l1] at H
      by_cases c18 : x8_2 < (wrap64 (2 * (wrap64 (1 + t198))))
      case neg =>
       rw [if_neg c18] at H
       have c18b0 : decide (x8_2 < (wrap64 (2 * (wrap64 (1 + t198))))) = false := decide_eq_false c18
       clear c18
       simp only [Option.some.injEq, Prod.mk.injEq] at H
       obtain ⟨rfl, rfl⟩ := H
       obtain ⟨Ao22, co22, eo22⟩ := Kd.R_slice HO_7.out
       subst eo22
       obtain ⟨Ao23, co23, eo23⟩ := Kd.R_slice HO_5.out
       subst eo23
       have hcz24_0 := zc0 BK192
       have hcz24_1 := zc1 BK192
       have hfz24_0 := blk_frozen BK192.out 0
       have hfz24_1 := blk_frozen BK192.out 1
       go_wp2
       refine bodyPost_ret (results_cell_row rfl _ _ gb192 25 #[.slice Ao23 x5_1.length co23, .slice Ao22 x7_2.length co22] (0, 0) _ rfl (by (with_reducible repeat (first | refine blk_drewN ?_ _ | refine blk_drew ?_ | refine blk_alloc ?_ _)); refine blk_put (cs := #[.slice Ao23 x5_1.length co23, .slice none 0 0]) ?_ 1 _ rfl; (with_reducible repeat (first | refine blk_drewN ?_ _ | refine blk_drew ?_ | refine blk_alloc ?_ _)); refine blk_put (cs := #[.slice none 0 0, .slice none 0 0]) ?_ 0 _ rfl; (with_reducible repeat (first | refine blk_drewN ?_ _ | refine blk_drew ?_ | refine blk_alloc ?_ _)); exact BK192.out) Try.underlying25 rfl (by kernel_rfl)) rfl ?_
       exact ⟨_, _, eR, Kd.Q_of_R (rT (Kd.R_mono (rF gb192 1 (rF gb192 0 (rY HO_5 BK192) (.slice Ao23 x5_1.length co23)) (.slice Ao22 x7_2.length co22)) (fun _ hk => hk.1))), rT (Kd.R_mono (rF gb192 1 (rF gb192 0 (rY HO_7 BK192) (.slice Ao23 x5_1.length co23)) (.slice Ao22 x7_2.length co22)) (fun _ hk => hk.1)), bP HB⟩
      rw [if_pos c18] at H
      have c18b0 : decide (x8_2 < (wrap64 (2 * (wrap64 (1 + t198))))) = true := decide_eq_true c18
      clear c18
      by_cases c19 : (wrap64 (2 * (wrap64 (1 + t198)))) = 0
      ·rw [if_pos c19] at H
       exact absurd H (by simp)
      rw [if_neg c19] at H
      have c19b0 : ((wrap64 (2 * (wrap64 (1 + t198)))) == 0) = false := beq_eq_false_iff_ne.mpr c19
      have c19b1 : ((wrap64 (2 * (wrap64 (1 + t198)))) != 0) = true := bne_iff_ne.mpr c19
      by_cases c20 : x7_2.length < 17592186044416
      case neg =>
       rw [if_neg c20] at H
       exact absurd H (by simp)
      rw [if_pos c20] at H
      have LMc20 := Aside0.mk c20
      clear c20
      obtain ⟨y209, hy209⟩ : ∃ y_ : List Int, y_ = (x7_2 ++ [Int.tmod (wrap64 (x8_2 + (wrap64 (1 + t198)))) (wrap64 (2 * (wrap64 (1 + t198))))]) := ⟨_, rfl⟩
      replace H : (spec_DrawMapTurns.l1 k2 (wrap64 (1 + t198)) x5_1 y209 (wrap64 (x8_2 + 1))) = some (r1, r2) := by first | (rw [hy209]; with_reducible exact H) | (have H2_ := (Option.bind_some _ _).symm.trans H; rw [hy209]; with_reducible exact H2_) | (have H2_ := (Option.bind_some _ _).symm.trans H; with_reducible exact H2_) | with_reducible exact H | (rw [hy209]; exact H) | exact H
      have Ny209 := Aside0.mk hy209
      clear hy209
      have H' := Aside0.mk H
      clear H
      go_wp2_with (first | ((with_reducible refine gate_builtin (b := .append) (xs := #[.tmp 39, .tmp 46]) rfl ?_); at_builtin; refine Kd.R_append (Kd.int .i64) (w0 := w) w.heap.size rfl (.tmp 39) (.tmp 46) 23 3 (.int .i64 0) 8 rfl Try.underlying23 info3 rfl (by decide) (by omega) u7 x7_2 (Int.tmod (wrap64 (x8_2 + (wrap64 (1 + t198)))) (wrap64 (2 * (wrap64 (1 + t198))))) [.int .i64 (Int.tmod (wrap64 (x8_2 + (wrap64 (1 + t198)))) (wrap64 (2 * (wrap64 (1 + t198)))))] (fun k_ => some k_ ≠ (u5 : Value).ownBlock) (fun _ => False) rfl rfl ?aP (fun _ hk => hk.elim) ?aF ?aO ?aB ?aS ?aL ?_; (case aP => exact rfl); (case aB => exact (bP HB)); (case aF => exact (fun k_ hk => Kd.fresh' (Kd.R_lt (rP HO_5)) k_ hk)); (case aO => exact (rP HO_7)); (case aS => exact (below_size (bP HB))); (case aL => have := LMc20.out; omega); intro v210 w21 ho hb hg hat; rw [← Ny209.out] at ho; replace HO_5 := Aside0.mk (Kd.R_after (ok := (fun _ => True)) (rT (Kd.R_mono HO_5.out (fun _ hk => ⟨trivial, hk⟩))) hg hat); replace BK192 := Aside0.mk (blk_grown (g := gb192) (o := .cells #[.slice none 0 0, .slice none 0 0] 25 (0, 0)) (kP BK192) hg (Kd.R_ne HO_7.out BK192.out (by decide))); replace HB := Aside0.mk (hb); have HO211 := Aside0.mk (ho); clear HO_7; clear ho hb hg hat))
      go_roundg k2
      case measure => have := HK1.out; have := HK2.out; omega
      case rel => exact ⟨(y209), (wrap64 (x8_2 + 1)), eS, H', ⟨by have := HK1.out; have := HK2.out; omega⟩, ⟨rT (Kd.R_mono HO_5.out (fun _ hk => hk.2))⟩, ⟨rP HO211⟩, ⟨kP BK192⟩, ⟨bP HB⟩⟩
 ·rw [if_neg c4] at H
  have c4b0 : (t196 == 0) = false := beq_eq_false_iff_ne.mpr c4
  have c4b1 : (t196 != 0) = true := bne_iff_ne.mpr c4
  obtain ⟨⟨t212, t215, t218⟩, A250, H⟩ := Option.bind_eq_some_iff.mp H
  dsimp only at H
  have A25 := Aside0.mk A250
  clear A250
  simp only [Option.some.injEq, Prod.mk.injEq] at H
  obtain ⟨rfl, rfl⟩ := H
  go_enter Try.func4, Try.ntmps4
  go_wp2_with (first | ((with_reducible refine gate_dst (N := 2) rfl ?_); refine bE 2 #[.slice none 0 0, .slice none 0 0] 25 ?_; intro gb192 hg w26 hbox hb; have BK192 := Aside0.mk (hbox); have GW192 := gS HB hg; have GE192 := gS HB hg; replace HB := bS HB hb; clear hb hbox hg) | ((with_reducible refine gate_callee (f := 10) rfl ?_); refine gL (some 10) Try.func10 #[.slice A0 l0.length c0] ?_; (with_reducible refine (spec_l6Open.calls _ _ l0 t193 t194 w _ ?side1 ?side2 ?side3 A2.out).mono ?_); (case side1 => exact bP HB); (case side2 => exact HR0.out); (case side3 => exact HC0.out); rintro e w27 ⟨g195, rfl, hi, hb, hb2⟩; refine ⟨_, rfl, ?_⟩; replace HB := Aside0.mk (hb); have HI195 := Aside0.mk (hi); have NB195_192 := Aside0.mk (IsS47.ne_blk hi (blk_below (kP BK192) hb2) (by decide)); have NB192_195 := Aside0.mk (Ne.symm (IsS47.ne_blk hi (blk_below (kP BK192) hb2) (by decide))); replace BK192 := kB BK192 hb2; (try clear hb); (try clear hb2); (try clear hk); (try clear hi)) | ((with_reducible refine gate_callee (f := 11) rfl ?_); refine gL (some 12) Try.func11 #[.pointer (some ⟨g195, 0, none⟩), .int .i64 3] ?_; (with_reducible refine (spec_l6Rd_pick.calls k g195 t193 t194 3 t196 t197 w _ ?side1 ?side2 A3.out).mono ?_); (case side1 => repeat (first | (with_reducible first | exact HI195.out | apply IsS47.alloc | apply IsS47.drewN | apply IsS47.drew | apply IsS47.set_1 | refine IsS47.far ?_ NB195_192.out _) | exact HI195.out)); (case side2 => repeat (first | (with_reducible first | exact HB.out | apply below_alloc | apply pw_below_drewN | apply below_drew1 | refine below_set ?_ (IsS47.ge HI195.out) | refine below_set ?_ GE192.out) | exact HB.out)); rintro e w28 ⟨rfl, hi, hb, hk⟩; refine ⟨_, rfl, ?_⟩; replace BK192 := Aside0.mk (KeepBut.blk hk (g' := gb192) (o := .cells #[.slice none 0 0, .slice none 0 0] 25 (0, 0)) (kP BK192) NB192_195.out (by simp)); replace HB := Aside0.mk (hb); replace HI195 := Aside0.mk (hi); (try clear hb); (try clear hb2); (try clear hk); (try clear hi)) | ((with_reducible refine gate_callee (f := 12) rfl ?_); refine gL (some 52) Try.func12 #[.pointer (some ⟨g195, 0, none⟩), .int .i64 4] ?_; (with_reducible refine (spec_l91Map.calls k g195 t193 t197 4 t212 t215 t218 w _ ?side1 ?side2 A25.out).mono ?_); (case side1 => repeat (first | (with_reducible first | exact HI195.out | apply IsS47.alloc | apply IsS47.drewN | apply IsS47.drew | apply IsS47.set_1 | refine IsS47.far ?_ NB195_192.out _) | exact HI195.out)); (case side2 => repeat (first | (with_reducible first | exact HB.out | apply below_alloc | apply pw_below_drewN | apply below_drew1 | refine below_set ?_ (IsS47.ge HI195.out) | refine below_set ?_ GE192.out) | exact HB.out)); rintro e w29 ⟨v213, v216, rfl, ho0, ho1, hi, hb, hk⟩; refine ⟨_, rfl, ?_⟩; replace BK192 := Aside0.mk (KeepBut.blk hk (g' := gb192) (o := .cells #[.slice none 0 0, .slice none 0 0] 25 (0, 0)) (kP BK192) NB192_195.out (by simp)); have HO214 := Aside0.mk (Kd.Q_lower ho0 (below_size (by repeat (first | (with_reducible first | exact HB.out | apply below_alloc | apply pw_below_drewN | apply below_drew1 | refine below_set ?_ (IsS47.ge HI195.out) | refine below_set ?_ GE192.out) | exact HB.out)))); have HO217 := Aside0.mk (Kd.R_lower ho1 (below_size (by repeat (first | (with_reducible first | exact HB.out | apply below_alloc | apply pw_below_drewN | apply below_drew1 | refine below_set ?_ (IsS47.ge HI195.out) | refine below_set ?_ GE192.out) | exact HB.out)))); replace HB := Aside0.mk (hb); replace HI195 := Aside0.mk (hi); (try clear hb); (try clear hb2); (try clear hk); (try clear hi); (try clear ho0); (try clear ho1); obtain ⟨Ao30, co30, eo30, _⟩ := Kd.Q_slice HO214.out; subst eo30; have hnb31 := NB192_195.out; have hnc31 := NB195_192.out; have hcz32_0 := zc0 BK192; have hcz32_1 := zc1 BK192; have hfz32_0 := blk_frozen BK192.out 0; have hfz32_1 := blk_frozen BK192.out 1; obtain ⟨Ao33, co33, eo33⟩ := Kd.R_slice HO217.out; subst eo33))
  refine bodyPost_ret (results_cell_row rfl _ _ gb192 25 #[.slice Ao30 t212.length co30, .slice Ao33 t215.length co33] (0, 0) _ rfl (by (with_reducible repeat (first | refine blk_drewN ?_ _ | refine blk_drew ?_ | refine blk_alloc ?_ _)); refine blk_put (cs := #[.slice Ao30 t212.length co30, .slice none 0 0]) ?_ 1 _ rfl; (with_reducible repeat (first | refine blk_drewN ?_ _ | refine blk_drew ?_ | refine blk_alloc ?_ _)); refine blk_put (cs := #[.slice none 0 0, .slice none 0 0]) ?_ 0 _ rfl; (with_reducible repeat (first | refine blk_drewN ?_ _ | refine blk_drew ?_ | refine blk_alloc ?_ _)); exact BK192.out) Try.underlying25 rfl (by kernel_rfl)) rfl ?_
  exact ⟨_, _, eR, qT (Kd.Q_mono (qF gb192 1 (qF gb192 0 (Kd.Q_types HO214.out BK192.out (by decide)) (.slice Ao30 t212.length co30)) (.slice Ao33 t215.length co33)) (fun _ hk => hk.1)), rT (Kd.R_mono (rF gb192 1 (rF gb192 0 (rY HO217 BK192) (.slice Ao30 t212.length co30)) (.slice Ao33 t215.length co33)) (fun _ hk => hk.1)), by repeat (first | (with_reducible first | exact HB.out | apply below_alloc | apply pw_below_drewN | apply below_drew1 | refine below_set ?_ (IsS47.ge HI195.out) | refine below_set ?_ GE192.out) | exact HB.out)⟩

end Go.Proofs.Ytjnbbnaidjodlaa.F
