/- Contracts: what these Go functions return. -/
import Derived.Test.YtmjdmahgkidocaaF0
import Derived.Test.YtmjdmahgkidocaaF31
import Derived.Test.YtmjdmahgkidocaaF33
namespace Go.Proofs.Ytmjdmahgkidocaa.F
open Go.RowKit Go.Proofs.YtmjdmahgkidocaaW.PrintWords Go.Proofs.YtmjdmahgkidocaaW.PrintLast Go.Proofs.YtmjdmahgkidocaaW.PrintMore
attribute [local go_sem] max2_int min2_int max_two min_two max_three min_three max_four min_four
set_option linter.unusedVariables false
set_option linter.unusedSimpArgs false

/-! ### spec_l6Open: function 40 -/
def spec_l6Open.f (l0 : List Int) : Option (List Int × Int) := if (l0.length : Int) > 2000 then (if 2000 ≤ (l0.length : Int) then (some (l0.take 2000, 0)) else (none)) else (some (l0, 0))
set_option maxHeartbeats 8000000 in
set_option maxRecDepth 100000 in
theorem spec_l6Open.calls (A0 : Option Addr) (c0 : Nat) (l0 : List Int) (r1 : List Int) (r2 : Int) (w0 w : World) (hB : Below w0.heap.size w0 w) (hr0 : Kd.C (Kd.int .u8) w0 A0 l0.length l0) (hc0 : l0.length ≤ c0) (h : spec_l6Open.f l0 = some (r1, r2)) :
 Calls Try.prog 40 #[.slice A0 l0.length c0] w fun e w' => ∃ g_ : Nat, e = .returned (.pointer (some ⟨g_, 0, none⟩)) ∧ IsS63 w0 w' g_ r1 r2 ∧ Below w0.heap.size w0 w' ∧ Below w.heap.size w w' := by
 have hu63 := Try.underlying63
 have HR0 := Aside0.mk hr0
 have HC0 := Aside0.mk hc0
 clear hr0 hc0
 have HBW := Aside0.mk (Below.refl w.heap.size w)
 have HW0 := Aside0.mk hB.size
 have HB := Aside0.mk hB
 clear hB
 have H : (if (l0.length : Int) > 2000 then (if 2000 ≤ (l0.length : Int) then (some (l0.take 2000, 0)) else (none)) else (some (l0, 0))) = some (r1, r2) := h
 clear h
 by_cases c2 : (l0.length : Int) > 2000
 ·rw [if_pos c2] at H
  have c2b0 : decide (2000 < (l0.length : Int)) = true := decide_eq_true c2
  have c2b1 : decide (2000 < l0.length) = true := decide_eq_true (by omega)
  clear c2
  by_cases c3 : 2000 ≤ (l0.length : Int)
  ·rw [if_pos c3] at H
   have c3b0 := eq_true c3
   have c3b1 : decide (2000 ≤ (l0.length : Int)) = true := decide_eq_true c3
   clear c3
   simp only [Option.some.injEq, Prod.mk.injEq] at H
   obtain ⟨rfl, rfl⟩ := H
   obtain ⟨i04, hi04, _, hsz4, _⟩ := info_parts info5
   obtain ⟨hcut4, hA4, hC4⟩ := print_take_of (P := Try.prog) (Value.int .u8) 0 36 5 .i64 Try.underlying36 hi04 hsz4 A0 c0 l0 2000 (by omega) (dT) HC0.out
   have HR586 := Aside0.mk (Kd.C_of_reads (h1 := fun _ => rfl) (hA4 _ (Kd.reads_of_C HR0.out)))
   have HC586 := Aside0.mk hC4
   clear hA4 hC4 hi04 hsz4
   go_enter Try.func40, Try.ntmps40
   go_wp2_with (first | ((with_reducible refine gate_dst (N := 10) rfl ?_); refine bE 10 #[.slice A0 (l0.take 2000).length c0, .int .i64 0] 63 ?_; intro gb587 hg w5 hbox hb; replace HB := bS HB hb; have BK587 := Aside0.mk (hbox); have GW587 := gS HBW hg; have GE587 := Aside0.mk ((Nat.le_trans HW0.out (by rw [hg]; exact (below_size (bP HBW)) : w.heap.size ≤ gb587) : w0.heap.size ≤ gb587)); replace HBW := Aside0.mk (below_step HBW.out hb); clear hb hbox hg))
   go_ret
   exact ⟨_, rfl, (show IsS63 w0 _ gb587 (l0.take 2000) 0 from ⟨_, _, kP BK587, GE587.out, HR586.out⟩), bP HB, bP HBW⟩
  ·rw [if_neg c3] at H
   exact absurd H (by simp)
 ·rw [if_neg c2] at H
  have c2b0 : decide (2000 < (l0.length : Int)) = false := decide_eq_false c2
  have c2b1 : decide (2000 < l0.length) = false := decide_eq_false (by omega)
  clear c2
  simp only [Option.some.injEq, Prod.mk.injEq] at H
  obtain ⟨rfl, rfl⟩ := H
  go_enter Try.func40, Try.ntmps40
  go_wp2_with (first | ((with_reducible refine gate_dst (N := 10) rfl ?_); refine bE 10 #[.slice A0 l0.length c0, .int .i64 0] 63 ?_; intro gb588 hg w6 hbox hb; replace HB := bS HB hb; have BK588 := Aside0.mk (hbox); have GW588 := gS HBW hg; have GE588 := Aside0.mk ((Nat.le_trans HW0.out (by rw [hg]; exact (below_size (bP HBW)) : w.heap.size ≤ gb588) : w0.heap.size ≤ gb588)); replace HBW := Aside0.mk (below_step HBW.out hb); clear hb hbox hg))
  go_ret
  exact ⟨_, rfl, (show IsS63 w0 _ gb588 l0 0 from ⟨_, _, kP BK588, GE588.out, HR0.out⟩), bP HB, bP HBW⟩

/-! ### spec_DrawMapLeast: function 19 -/
def spec_DrawMapLeast.f (k : Nat) (l0 : List Int) : Option (List Int × List Int) := (spec_l6Open.f l0).bind fun bt590 => ((spec_l91Map.f k bt590.1 bt590.2 4).bind fun bt593 => (some (bt593.1, bt593.2.1)))
set_option maxHeartbeats 8000000 in
set_option maxRecDepth 100000 in
theorem spec_DrawMapLeast.calls (k : Nat) (A0 : Option Addr) (c0 : Nat) (l0 : List Int) (r1 : List Int) (r2 : List Int) (w : World) (hr0 : Kd.C (Kd.int .u8) w A0 l0.length l0) (hc0 : l0.length ≤ c0) (h : spec_DrawMapLeast.f k l0 = some (r1, r2)) :
 Calls Try.prog 19 #[.slice A0 l0.length c0] w fun e w' => ∃ v0_ v1_ : Value, e = .returned (.agg #[v0_, v1_]) ∧ Kd.Q (Kd.int .i64) 3 w' w.heap.size (fun k_ => some k_ ≠ (v1_ : Value).ownBlock) v0_ r1 ∧ Kd.R (Kd.int .i64) 3 w' w.heap.size (fun k_ => some k_ ≠ (v0_ : Value).ownBlock) v1_ r2 ∧ Below w.heap.size w w' := by
 have hu24 := Try.underlying24
 have HR0 := Aside0.mk hr0
 have HC0 := Aside0.mk hc0
 clear hr0 hc0
 have HB := Aside0.mk (Below.refl w.heap.size w)
 have H : ((spec_l6Open.f l0).bind fun bt590 => ((spec_l91Map.f k bt590.1 bt590.2 4).bind fun bt593 => (some (bt593.1, bt593.2.1)))) = some (r1, r2) := h
 clear h
 replace H := Option.bind_eq_some_iff.mp H
 obtain ⟨⟨t590, t591⟩, A20, H⟩ := H
 replace H : ((spec_l91Map.f k t590 t591 4).bind fun bt593 => (some (bt593.1, bt593.2.1))) = some (r1, r2) := H
 have A2 := Aside0.mk A20
 clear A20
 replace H := Option.bind_eq_some_iff.mp H
 obtain ⟨⟨t593, t596, t599⟩, A30, H⟩ := H
 replace H : (some (t593, t596)) = some (r1, r2) := H
 have A3 := Aside0.mk A30
 clear A30
 simp only [Option.some.injEq, Prod.mk.injEq] at H
 obtain ⟨rfl, rfl⟩ := H
 go_enter Try.func19, Try.ntmps19
 go_wp2_with (first | ((with_reducible refine gate_dst (N := 2) rfl ?_); refine bE 2 #[.slice none 0 0, .slice none 0 0] 24 ?_; intro gb589 hg w4 hbox hb; have BK589 := Aside0.mk (hbox); have GW589 := gS HB hg; have GE589 := gS HB hg; replace HB := bS HB hb; clear hb hbox hg) | ((with_reducible refine gate_callee (f := 40) rfl ?_); refine gL (some 4) Try.func40 #[.slice A0 l0.length c0] ?_; (with_reducible refine (spec_l6Open.calls _ _ l0 t590 t591 w _ ?side1 ?side2 ?side3 A2.out).mono ?_); (case side1 => exact bP HB); (case side2 => exact HR0.out); (case side3 => exact HC0.out); rintro e w5 ⟨g592, rfl, hi, hb, hb2⟩; refine ⟨_, rfl, ?_⟩; replace HB := Aside0.mk (hb); have HI592 := Aside0.mk (hi); have NB592_589 := Aside0.mk (IsS63.ne_blk hi (blk_below (kP BK589) hb2) (by decide)); have NB589_592 := Aside0.mk (Ne.symm (IsS63.ne_blk hi (blk_below (kP BK589) hb2) (by decide))); replace BK589 := kB BK589 hb2; (try clear hb); (try clear hb2); (try clear hk); (try clear hi)) | ((with_reducible refine gate_callee (f := 39) rfl ?_); refine gL (some 5) Try.func39 #[.pointer (some ⟨g592, 0, none⟩), .int .i64 4] ?_; (with_reducible refine (spec_l91Map.calls k g592 t590 t591 4 t593 t596 t599 w _ ?side1 ?side2 A3.out).mono ?_); (case side1 => repeat (first | (with_reducible first | exact HI592.out | apply IsS63.alloc | apply IsS63.drewN | apply IsS63.drew | apply IsS63.set_1 | refine IsS63.far ?_ NB592_589.out _) | exact HI592.out)); (case side2 => repeat (first | (with_reducible first | exact HB.out | apply below_alloc | apply pw_below_drewN | apply below_drew1 | refine below_set ?_ (IsS63.ge HI592.out) | refine below_set ?_ GE589.out) | exact HB.out)); rintro e w6 ⟨v594, v597, rfl, ho0, ho1, hi, hb, hk⟩; refine ⟨_, rfl, ?_⟩; replace BK589 := Aside0.mk (KeepBut.blk hk (g' := gb589) (o := .cells #[.slice none 0 0, .slice none 0 0] 24 (0, 0)) (kP BK589) NB589_592.out (by simp)); have HO595 := Aside0.mk (Kd.Q_lower ho0 (below_size (by repeat (first | (with_reducible first | exact HB.out | apply below_alloc | apply pw_below_drewN | apply below_drew1 | refine below_set ?_ (IsS63.ge HI592.out) | refine below_set ?_ GE589.out) | exact HB.out)))); have HO598 := Aside0.mk (Kd.R_lower ho1 (below_size (by repeat (first | (with_reducible first | exact HB.out | apply below_alloc | apply pw_below_drewN | apply below_drew1 | refine below_set ?_ (IsS63.ge HI592.out) | refine below_set ?_ GE589.out) | exact HB.out)))); replace HB := Aside0.mk (hb); replace HI592 := Aside0.mk (hi); (try clear hb); (try clear hb2); (try clear hk); (try clear hi); (try clear ho0); (try clear ho1); obtain ⟨Ao7, co7, eo7, _⟩ := Kd.Q_slice HO595.out; subst eo7; have hnb8 := NB589_592.out; have hnc8 := NB592_589.out; have hcz9_0 := zc0 BK589; have hcz9_1 := zc1 BK589; have hfz9_0 := blk_frozen BK589.out 0; have hfz9_1 := blk_frozen BK589.out 1; obtain ⟨Ao10, co10, eo10⟩ := Kd.R_slice HO598.out; subst eo10))
 refine bodyPost_ret (results_cell_row rfl _ _ gb589 24 #[.slice Ao7 t593.length co7, .slice Ao10 t596.length co10] (0, 0) _ rfl (by (with_reducible repeat (first | refine blk_drewN ?_ _ | refine blk_drew ?_ | refine blk_alloc ?_ _)); refine blk_put (cs := #[.slice Ao7 t593.length co7, .slice none 0 0]) ?_ 1 _ rfl; (with_reducible repeat (first | refine blk_drewN ?_ _ | refine blk_drew ?_ | refine blk_alloc ?_ _)); refine blk_put (cs := #[.slice none 0 0, .slice none 0 0]) ?_ 0 _ rfl; (with_reducible repeat (first | refine blk_drewN ?_ _ | refine blk_drew ?_ | refine blk_alloc ?_ _)); exact BK589.out) Try.underlying24 rfl (by kernel_rfl)) rfl ?_
 exact ⟨_, _, eR, by (with_reducible repeat (first | apply Kd.Q_alloc | apply Kd.Q_drewN | apply Kd.Q_drew)); exact Kd.Q_mono (Kd.Q_far (p := ⟨gb589, 1, none⟩) (Kd.Q_far (p := ⟨gb589, 0, none⟩) (Kd.Q_types HO595.out BK589.out (by decide)) (fun _ hk => hk.2) (.slice Ao7 t593.length co7)) (fun _ hk => hk.2) (.slice Ao10 t596.length co10)) (fun _ hk => hk.1), by (with_reducible repeat (first | apply Kd.R_alloc | apply Kd.R_drewN | apply Kd.R_drew)); exact Kd.R_mono (Kd.R_far (p := ⟨gb589, 1, none⟩) (Kd.R_far (p := ⟨gb589, 0, none⟩) (Kd.R_types HO598.out BK589.out (by decide)) (fun _ hk => hk.2) (.slice Ao7 t593.length co7)) (fun _ hk => hk.2) (.slice Ao10 t596.length co10)) (fun _ hk => hk.1), by repeat (first | (with_reducible first | exact HB.out | apply below_alloc | apply pw_below_drewN | apply below_drew1 | refine below_set ?_ (IsS63.ge HI592.out) | refine below_set ?_ GE589.out) | exact HB.out)⟩

/-! ### spec_l2Order: function 51 -/
def spec_l2Order.l0 : Nat → List Int → List Int → Int → Option (Int)
 | 0, _, _, _ => none
 | k + 1, x0, x1, x5 => if x5 < (x0.length : Int) then (if 0 ≤ x5 then (if x5 < (x1.length : Int) then (if (rd x0 x5) < (rd x1 x5) then (some (-1)) else (if (rd x0 x5) > (rd x1 x5) then (some 1) else (spec_l2Order.l0 k x0 x1 (wrap64 (x5 + 1))))) else (none)) else (none)) else (some 0)
def spec_l2Order.f (k : Nat) (l0 : List Int) (l1 : List Int) : Option (Int) := spec_l2Order.l0 k l0 l1 0
set_option maxHeartbeats 8000000 in
set_option maxRecDepth 100000 in
theorem spec_l2Order.calls (k : Nat) (A0 : Option Addr) (c0 : Nat) (l0 : List Int) (A1 : Option Addr) (c1 : Nat) (l1 : List Int) (r : Int) (w : World) (hr0 : Kd.C (Kd.int .i64) w A0 l0.length l0) (hc0 : l0.length ≤ c0) (hr1 : Kd.C (Kd.int .i64) w A1 l1.length l1) (hc1 : l1.length ≤ c1) (h : spec_l2Order.f k l0 l1 = some r) :
 Calls Try.prog 51 #[.slice A0 l0.length c0, .slice A1 l1.length c1] w fun e w' => e = .returned (.int .i64 r) ∧ Drawn0 w w' := by
 have HR0 := Aside0.mk hr0
 have HC0 := Aside0.mk hc0
 clear hr0 hc0
 have HR1 := Aside0.mk hr1
 have HC1 := Aside0.mk hc1
 clear hr1 hc1
 have H : (spec_l2Order.l0 k l0 l1 0) = some r := h
 clear h
 have H' := Aside0.mk H
 clear H
 go_enter Try.func51, Try.ntmps51
 go_wp2
 repeat (go_quiet (fail); try go_wp2)
 go_loopg [5] k (fun kq v5 w' => ∃ (x5_1 : Int), v5 = .int .i64 x5_1 ∧ Aside0 (spec_l2Order.l0 kq l0 l1 x5_1 = some r) ∧ Aside0 (kq ≤ k) ∧ Drawn0 w w')
 case atStart => exact ⟨(0), eS, H', ⟨Nat.le_refl _⟩, dP⟩
 case round =>
  clear H'
  try clear c1
  try clear p2
  obtain ⟨x5_1, rfl, HA, HK1, ⟨m1, rfl⟩⟩ := hrel
  cases gk with
  | zero => exact absurd HA.out (by simp [spec_l2Order.l0])
  | succ k1 =>
   have H := HA.out
   clear HA
   simp only [spec_l2Order.l0] at H
   by_cases c3 : x5_1 < (l0.length : Int)
   ·rw [if_pos c3] at H
    have c3b0 : decide (x5_1 < (l0.length : Int)) = true := decide_eq_true c3
    clear c3
    by_cases c4 : 0 ≤ x5_1
    ·rw [if_pos c4] at H
     have c4b0 : decide (0 ≤ x5_1) = true := decide_eq_true c4
     clear c4
     by_cases c5 : x5_1 < (l1.length : Int)
     ·rw [if_pos c5] at H
      have c5b0 : decide (x5_1 < (l1.length : Int)) = true := decide_eq_true c5
      clear c5
      by_cases c6 : (rd l0 x5_1) < (rd l1 x5_1)
      ·rw [if_pos c6] at H
       have c6b0 : decide ((rd l0 x5_1) < (rd l1 x5_1)) = true := decide_eq_true c6
       clear c6
       obtain rfl := Option.some.inj H
       have p600 : 0 ≤ (x5_1 : Int) := dT
       have q600 : x5_1 < (l0.length : Int) := dT
       obtain ⟨ad600, e600, hx600_0⟩ := Kd.at_int HR0.out x5_1 p600 q600
       cases e600
       replace p600 := eq_true p600
       replace q600 := eq_true q600
       have p601 : 0 ≤ (x5_1 : Int) := dT
       have q601 : x5_1 < (l1.length : Int) := dT
       obtain ⟨ad601, e601, hx601_0⟩ := Kd.at_int HR1.out x5_1 p601 q601
       cases e601
       replace p601 := eq_true p601
       replace q601 := eq_true q601
       go_wp2
       repeat (go_quiet (fail); try go_wp2)
       go_ret
       exact ⟨by first | rfl | (simp; done) | (simp [*]; done), dP⟩
      ·rw [if_neg c6] at H
       have c6b0 : decide ((rd l0 x5_1) < (rd l1 x5_1)) = false := decide_eq_false c6
       clear c6
       by_cases c7 : (rd l0 x5_1) > (rd l1 x5_1)
       ·rw [if_pos c7] at H
        have c7b0 : decide ((rd l1 x5_1) < (rd l0 x5_1)) = true := decide_eq_true c7
        clear c7
        obtain rfl := Option.some.inj H
        have p600 : 0 ≤ (x5_1 : Int) := dT
        have q600 : x5_1 < (l0.length : Int) := dT
        obtain ⟨ad600, e600, hx600_0⟩ := Kd.at_int HR0.out x5_1 p600 q600
        cases e600
        replace p600 := eq_true p600
        replace q600 := eq_true q600
        have p601 : 0 ≤ (x5_1 : Int) := dT
        have q601 : x5_1 < (l1.length : Int) := dT
        obtain ⟨ad601, e601, hx601_0⟩ := Kd.at_int HR1.out x5_1 p601 q601
        cases e601
        replace p601 := eq_true p601
        replace q601 := eq_true q601
        have p602 : 0 ≤ (x5_1 : Int) := dT
        have q602 : x5_1 < (l0.length : Int) := dT
        obtain ⟨ad602, e602, hx602_0⟩ := Kd.at_int HR0.out x5_1 p602 q602
        obtain rfl : ad600 = ad602 := (by injection e602)
        replace p602 := eq_true p602
        replace q602 := eq_true q602
        have p603 : 0 ≤ (x5_1 : Int) := dT
        have q603 : x5_1 < (l1.length : Int) := dT
        obtain ⟨ad603, e603, hx603_0⟩ := Kd.at_int HR1.out x5_1 p603 q603
        obtain rfl : ad601 = ad603 := (by injection e603)
        replace p603 := eq_true p603
        replace q603 := eq_true q603
        go_wp2
        repeat (go_quiet (fail); try go_wp2)
        go_ret
        exact ⟨by first | rfl | (simp; done) | (simp [*]; done), dP⟩
       ·rw [if_neg c7] at H
        have c7b0 : decide ((rd l1 x5_1) < (rd l0 x5_1)) = false := decide_eq_false c7
        clear c7
        have H' := Aside0.mk H
        clear H
        have p600 : 0 ≤ (x5_1 : Int) := dT
        have q600 : x5_1 < (l0.length : Int) := dT
        obtain ⟨ad600, e600, hx600_0⟩ := Kd.at_int HR0.out x5_1 p600 q600
        cases e600
        replace p600 := eq_true p600
        replace q600 := eq_true q600
        have p601 : 0 ≤ (x5_1 : Int) := dT
        have q601 : x5_1 < (l1.length : Int) := dT
        obtain ⟨ad601, e601, hx601_0⟩ := Kd.at_int HR1.out x5_1 p601 q601
        cases e601
        replace p601 := eq_true p601
        replace q601 := eq_true q601
        have p602 : 0 ≤ (x5_1 : Int) := dT
        have q602 : x5_1 < (l0.length : Int) := dT
        obtain ⟨ad602, e602, hx602_0⟩ := Kd.at_int HR0.out x5_1 p602 q602
        obtain rfl : ad600 = ad602 := (by injection e602)
        replace p602 := eq_true p602
        replace q602 := eq_true q602
        have p603 : 0 ≤ (x5_1 : Int) := dT
        have q603 : x5_1 < (l1.length : Int) := dT
        obtain ⟨ad603, e603, hx603_0⟩ := Kd.at_int HR1.out x5_1 p603 q603
        obtain rfl : ad601 = ad603 := (by injection e603)
        replace p603 := eq_true p603
        replace q603 := eq_true q603
        go_wp2
        repeat (go_quiet (fail); try go_wp2)
        go_roundg k1
        case measure => have := HK1.out; omega
        case rel => exact ⟨(wrap64 (x5_1 + 1)), eS, H', ⟨by have := HK1.out; omega⟩, dP⟩
     ·rw [if_neg c5] at H
      exact absurd H (by simp)
    ·rw [if_neg c4] at H
     exact absurd H (by simp)
   ·rw [if_neg c3] at H
    have c3b0 : decide (x5_1 < (l0.length : Int)) = false := decide_eq_false c3
    clear c3
    obtain rfl := Option.some.inj H
    go_wp2
    repeat (go_quiet (fail); try go_wp2)
    go_ret
    exact ⟨by first | rfl | (simp; done) | (simp [*]; done), dP⟩

end Go.Proofs.Ytmjdmahgkidocaa.F
