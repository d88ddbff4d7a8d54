/- Contracts: what these Go functions return. -/
import Derived.Test.YtihabnfccgjfbaaF0
import Derived.Test.YtihabnfccgjfbaaF16
import Derived.Test.YtihabnfccgjfbaaF20
import Derived.Test.YtihabnfccgjfbaaF22
import Derived.Test.YtihabnfccgjfbaaF24
namespace Go.Proofs.Ytihabnfccgjfbaa.F
open Go.RowKit Go.Proofs.YtihabnfccgjfbaaW.PrintWords Go.Proofs.YtihabnfccgjfbaaW.PrintLast Go.Proofs.YtihabnfccgjfbaaW.PrintMore
attribute [local go_sem] max2_int min2_int max_two min_two max_three min_three max_four min_four
set_option linter.unusedVariables false
set_option linter.unusedSimpArgs false

/-! ### laws_FnFar: function 4 -/
mutual
def laws_FnFar.j0 : Nat → List Int → List Int → Bool → Option (Bool)
 | 0, _, _, _ => none
 | k + 1, x0, x1, x20 => if x20 = true then (some true) else ((spec_DrawMapFar.f k x0).bind fun bt398 => ((impl_MapFar.f k bt398.1 bt398.2.1 bt398.2.2.1 bt398.2.2.2).bind fun t407 => ((spec_MapFar.f k bt398.1 bt398.2.1 bt398.2.2.1 bt398.2.2.2).bind fun t408 => (if t407 = t408 then (laws_FnFar.j1 k x1 bt398.2.2.1 bt398.2.2.2 t407 t408 (decide (t407 < 0)) bt398.1 bt398.2.1) else (laws_FnFar.j1 k x1 bt398.2.2.1 bt398.2.2.2 t407 t408 true bt398.1 bt398.2.1)))))
def laws_FnFar.j1 : Nat → List Int → Int → Int → Int → Int → Bool → List Int → List Int → Option (Bool)
 | 0, _, _, _, _, _, _, _, _ => none
 | k + 1, x1, x6, x7, x8, x9, x41, x407000, x407001 => if x41 = true then (some (x8 == x9)) else ((impl_MapCounts.f k x407000 x407001).bind fun bt409 => (if (x407000.length : Int) = 0 then (none) else (if bt409.2 = true then ((impl_MapFar.f k x407000 x407001 x7 x6).bind fun t413 => (if t413 = x8 then ((impl_MapFar.f k x407000 x407001 x6 ((x1.length : Int) % (x407000.length : Int))).bind fun t414 => ((impl_MapFar.f k x407000 x407001 ((x1.length : Int) % (x407000.length : Int)) x7).bind fun t415 => (if x8 ≤ (wrap64 (t414 + t415)) then (if 0 ≤ ((x1.length : Int) % (x407000.length : Int)) then (if ((x1.length : Int) % (x407000.length : Int)) < (x407000.length : Int) then ((impl_MapFar.f k x407000 x407001 ((x1.length : Int) % (x407000.length : Int)) (rd x407000 ((x1.length : Int) % (x407000.length : Int)))).bind fun t417 => (if t417 = 0 then (if ((x1.length : Int) % (x407000.length : Int)) < (x407001.length : Int) then ((impl_MapFar.f k x407000 x407001 ((x1.length : Int) % (x407000.length : Int)) (rd x407001 ((x1.length : Int) % (x407000.length : Int)))).bind fun t419 => (if t419 ≤ 1 then (if 0 < (bt409.1.length : Int) then (some (decide (x8 < (rd bt409.1 0)))) else (none)) else (some false))) else (none)) else (some false))) else (none)) else (none)) else (some false)))) else (some false))) else (some false))))
end
def laws_FnFar.f (k : Nat) (l0 : List Int) (l1 : List Int) : Option (Bool) := if (l0.length : Int) > 1048576 then (laws_FnFar.j0 k l0 l1 true) else (laws_FnFar.j0 k l0 l1 (decide ((l1.length : Int) > 1048576)))
def laws_FnFar.T10 : Bool × List (List Nat × List Nat) := (true, [([], []), ([0], [0]), ([1], [1]), ([1], [1]), ([1], [1]), ([2, 3, 4, 1, 1], [1, 2, 3, 4]), ([1], [1]), ([5, 6, 1], [1, 5, 6]), ([1, 7], [1, 7]), ([8, 5], [8]), ([9], [9]), ([9], [9]), ([9], [9]), ([9], [9]), ([11, 12, 13, 9, 9], [9, 11, 12, 13]), ([9], [9]), ([9], [9]), ([9], [9]), ([15, 16, 17, 14, 9], [9, 15, 16, 17]), ([14, 18, 9], [9, 14, 18]), ([10, 19, 9], [9, 10, 19]), ([9, 20], [9, 20]), ([21, 18], [21]), ([22], [22]), ([22], [22]), ([22], [22]), ([25, 22], [22, 25]), ([22], [22]), ([26, 27, 22], [22, 26, 27]), ([28, 22], [22, 28]), ([23, 24, 29, 22, 22], [22, 23, 24, 29]), ([30, 22], [22, 30]), ([22, 31], [22, 31]), ([32, 30], [32]), ([33], [33]), ([33], [33]), ([33], [33]), ([36, 33], [33, 36]), ([33], [33]), ([37, 38, 33], [33, 37, 38]), ([39, 33], [33, 39]), ([34, 35, 40, 33, 33], [33, 34, 35, 40]), ([41, 33], [33, 41]), ([33, 42], [33, 42]), ([43, 41], [43]), ([44], [44]), ([44], [44]), ([46, 44], [44, 46]), ([47, 44], [44, 47]), ([45, 48, 44], [44, 45, 48]), ([44, 49], [44, 49]), ([50, 44, 0, 1, 2, 3, 4, 5, 6, 7, 8, 9, 10, 11, 12, 13, 14, 15, 16, 17, 18, 19, 20, 21, 22, 23, 24, 25, 26, 27, 28, 29, 30, 31, 32, 33, 34, 35, 36, 37, 38, 39, 40, 41, 42, 43, 44, 45, 46, 47, 48, 49, 50], [50])])
def laws_FnFar.B10 : List Nat := [0, 1, 3, 3, 3, 31, 3, 127, 255, 511, 1023, 1023, 1023, 1023, 15359, 1023, 1023, 1023, 261119, 523263, 1048575, 2097151, 4194303, 8388607, 8388607, 8388607, 41943039, 8388607, 243269631, 511705087, 1073741823, 2147483647, 4294967295, 8589934591, 17179869183, 17179869183, 17179869183, 85899345919, 17179869183, 498216206335, 1047972020223, 2199023255551, 4398046511103, 8796093022207, 17592186044415, 35184372088831, 35184372088831, 105553116266495, 246290604621823, 562949953421311, 1125899906842623, 2251799813685247]
theorem laws_FnFar.tab10 : rtab .any (opsOf Try.f4 10) = laws_FnFar.T10 := by kernel_rfl
theorem laws_FnFar.bits10 : waitsOk laws_FnFar.T10.2 laws_FnFar.B10 = true := by kernel_rfl
set_option maxHeartbeats 8000000 in
set_option maxRecDepth 100000 in
theorem laws_FnFar.calls (k : Nat) (A0 : Option Addr) (c0 : Nat) (l0 : List Int) (A1 : Option Addr) (c1 : Nat) (l1 : List Int) (r : Bool) (w : World) (hr0 : Kd.C (Kd.int .u8) w A0 l0.length l0) (hc0 : l0.length ≤ c0) (hr1 : Kd.C (Kd.int .u8) w A1 l1.length l1) (hc1 : l1.length ≤ c1) (hr_ : Aside0 (r = true)) (h : laws_FnFar.f k l0 l1 = some r) :
 Calls Try.prog 4 #[.slice A0 l0.length c0, .slice A1 l1.length c1] w fun e w' => e = .returned (.bool r) ∧ Below w.heap.size w w' := by
 have hu25 := Try.underlying25
 have HR0 := Aside0.mk hr0
 have HC0 := Aside0.mk hc0
 clear hr0 hc0
 have HR1 := Aside0.mk hr1
 have HC1 := Aside0.mk hc1
 clear hr1 hc1
 have HB := Aside0.mk (Below.refl w.heap.size w)
 have H : (if (l0.length : Int) > 1048576 then (laws_FnFar.j0 k l0 l1 true) else (laws_FnFar.j0 k l0 l1 (decide ((l1.length : Int) > 1048576)))) = some r := h
 clear h
 have HC3 := Aside0.mk H
 clear H
 go_enter Try.func4, Try.ntmps4
 go_upto_region 1 with (fail)
 go_cut [20] (fun v20 wc => ∃ (kq : Nat) (x20_2 : Bool), v20 = .bool x20_2 ∧ Aside0 (laws_FnFar.j0 kq l0 l1 x20_2 = some r) ∧ Aside0 (kq ≤ k) ∧ Aside0 (Below w.heap.size w wc))
 case first =>
  have H := HC3.out
  clear HC3
  by_cases c4 : (l0.length : Int) > 1048576
  ·rw [if_pos c4] at H
   have c4b0 : decide (1048576 < (l0.length : Int)) = true := decide_eq_true c4
   have c4b1 : decide (1048576 < l0.length) = true := decide_eq_true (by omega)
   clear c4
   (first | rw [c4b0] | (simp only [i64_w, i32_w]; rw [c4b0]) | skip)
   have H' := Aside0.mk H
   clear H
   go_wp2
   go_meet
   case rel => exact ⟨_, (true), eS, H', ⟨by first | omega | exact Nat.le_refl _⟩, ⟨bP HB⟩⟩
  ·rw [if_neg c4] at H
   have c4b0 : decide (1048576 < (l0.length : Int)) = false := decide_eq_false c4
   have c4b1 : decide (1048576 < l0.length) = false := decide_eq_false (by omega)
   clear c4
   (first | rw [c4b0] | (simp only [i64_w, i32_w]; rw [c4b0]) | skip)
   have H' := Aside0.mk H
   clear H
   go_wp2
   go_meet
   case rel => exact ⟨_, (decide ((l1.length : Int) > 1048576)), eS, H', ⟨by first | omega | exact Nat.le_refl _⟩, ⟨bP HB⟩⟩
 case rest =>
  clear HC3
  try clear c1
  try clear p2
  try clear c4
  try clear c4b0
  try clear c4b1
  obtain ⟨kq, x20_2, rfl, HA, HJ2, HB⟩ := hcut
  cases kq with
  | zero => exact absurd HA.out (by simp [laws_FnFar.j0])
  | succ kj2 =>
   have H := HA.out
   clear HA
   simp only [laws_FnFar.j0] at H
   by_cases c5 : x20_2 = true
   ·subst c5
    have H1 : (some true) = some r := by rw [if_pos rfl] at H; exact H
    clear H
    have H := H1
    clear H1
    obtain rfl := Option.some.inj H
    go_wp2
    go_ret
    exact ⟨eR, bP HB⟩
   ·replace c5 := Bool.eq_false_iff.mpr c5
    subst c5
    have H1 : ((spec_DrawMapFar.f kj2 l0).bind fun bt398 => ((impl_MapFar.f kj2 bt398.1 bt398.2.1 bt398.2.2.1 bt398.2.2.2).bind fun t407 => ((spec_MapFar.f kj2 bt398.1 bt398.2.1 bt398.2.2.1 bt398.2.2.2).bind fun t408 => (if t407 = t408 then (laws_FnFar.j1 kj2 l1 bt398.2.2.1 bt398.2.2.2 t407 t408 (decide (t407 < 0)) bt398.1 bt398.2.1) else (laws_FnFar.j1 kj2 l1 bt398.2.2.1 bt398.2.2.2 t407 t408 true bt398.1 bt398.2.1))))) = some r := by rw [if_neg (show ¬ (false = true) by decide)] at H; exact H
    clear H
    have H := H1
    clear H1
    replace H := Option.bind_eq_some_iff.mp H
    obtain ⟨⟨t398, t401, t404, t405⟩, A60, H⟩ := H
    replace H : ((impl_MapFar.f kj2 t398 t401 t404 t405).bind fun t407 => ((spec_MapFar.f kj2 t398 t401 t404 t405).bind fun t408 => (if t407 = t408 then (laws_FnFar.j1 kj2 l1 t404 t405 t407 t408 (decide (t407 < 0)) t398 t401) else (laws_FnFar.j1 kj2 l1 t404 t405 t407 t408 true t398 t401)))) = some r := H
    have A6 := Aside0.mk A60
    clear A60
    replace H := Option.bind_eq_some_iff.mp H
    obtain ⟨t407, A70, H⟩ := H
    replace H : ((spec_MapFar.f kj2 t398 t401 t404 t405).bind fun t408 => (if t407 = t408 then (laws_FnFar.j1 kj2 l1 t404 t405 t407 t408 (decide (t407 < 0)) t398 t401) else (laws_FnFar.j1 kj2 l1 t404 t405 t407 t408 true t398 t401))) = some r := H
    have A7 := Aside0.mk A70
    clear A70
    replace H := Option.bind_eq_some_iff.mp H
    obtain ⟨t408, A80, H⟩ := H
    replace H : (if t407 = t408 then (laws_FnFar.j1 kj2 l1 t404 t405 t407 t408 (decide (t407 < 0)) t398 t401) else (laws_FnFar.j1 kj2 l1 t404 t405 t407 t408 true t398 t401)) = some r := H
    have A8 := Aside0.mk A80
    clear A80
    have HC9 := Aside0.mk H
    clear H
    go_upto_region 6 with (first | ((with_reducible refine gate_callee (f := 16) rfl ?_); refine gL (some 23) Try.func16 #[.slice A0 l0.length c0] ?_; (with_reducible refine (spec_DrawMapFar.calls kj2 _ _ l0 t398 t401 t404 t405 _ ?side1 ?side2 A6.out).mono ?_); (case side1 => exact cB HR0 HB); (case side2 => exact HC0.out); rintro e w10 ⟨v399, v402, rfl, ho0, ho1, hb⟩; refine ⟨_, rfl, ?_⟩; have HO400 := Aside0.mk (Kd.Q_lower ho0 (below_size (bP HB))); have HO403 := rL ho1 HB; replace HB := bS HB hb; (try clear hb); (try clear hb2); (try clear hk); (try clear hi); (try clear ho0); (try clear ho1)) | ((with_reducible refine gate_dst (N := 5) rfl ?_); (try (refine gate_guard (by rfl) ?_; dsimp only)); refine bE 5 #[.slice none 0 0, .slice none 0 0] 25 ?_; intro gb406 hg w11 hbox hb; replace HO400 := Aside0.mk (Kd.Q_below (by (with_reducible repeat (first | apply Kd.Q_alloc | apply Kd.Q_drewN | apply Kd.Q_drew)); exact HO400.out) hb); replace HO403 := rB HO403 hb; have BK406 := Aside0.mk (hbox); have GW406 := gS HB hg; have GE406 := gS HB hg; replace HB := bS HB hb; clear hb hbox hg; obtain ⟨Ao12, co12, eo12, _⟩ := Kd.Q_slice HO400.out; subst eo12; have hcz13_0 := zc0 BK406; have hcz13_1 := zc1 BK406; have hfz13_0 := blk_frozen BK406.out 0; have hfz13_1 := blk_frozen BK406.out 1; obtain ⟨Ao14, co14, eo14⟩ := Kd.R_slice HO403.out; subst eo14) | ((with_reducible refine gate_callee (f := 17) rfl ?_); refine gL (some 30) Try.func17 #[.agg #[.slice Ao12 t398.length co12, .slice Ao14 t401.length co14], .int .i64 t404, .int .i64 t405] ?_; (with_reducible refine (impl_MapFar.calls kj2 _ _ t398 _ _ t401 t404 t405 t407 _ ?side1 ?side2 ?side3 ?side4 A7.out).mono ?_); (case side1 => refine (Kd.Q_reads' (e := 3) (base := w.heap.size) (ok := fun k_ => oN k_ Ao14 t401 co14) (n := t398.length) (c := co12) ?_).2.2; exact (by (with_reducible repeat (first | apply Kd.Q_alloc | apply Kd.Q_drewN | apply Kd.Q_drew)); exact (Kd.Q_mono (Kd.Q_far (p := ⟨gb406, 1, none⟩) (Kd.Q_far (p := ⟨gb406, 0, none⟩) (Kd.Q_types HO400.out BK406.out (by decide)) (fun _ hk => hk.2) (.slice Ao12 t398.length co12)) (fun _ hk => hk.2) (.slice Ao14 t401.length co14)) (fun _ h_ => h_.1)))); (case side2 => exact (Kd.Q_reads' HO400.out).2.1); (case side3 => refine (Kd.R_reads' (e := 3) (base := w.heap.size) (ok := fun k_ => oN k_ Ao12 t398 co12) (n := t401.length) (c := co14) ?_).2.2; exact (rT (Kd.R_mono (Kd.R_far (p := ⟨gb406, 1, none⟩) (Kd.R_far (p := ⟨gb406, 0, none⟩) (Kd.R_types HO403.out BK406.out (by decide)) (fun _ hk => hk.2) (.slice Ao12 t398.length co12)) (fun _ hk => hk.2) (.slice Ao14 t401.length co14)) (fun _ h_ => h_.1)))); (case side4 => exact (Kd.R_reads' HO403.out).2.1); rintro e w15 ⟨rfl, hb⟩; refine ⟨_, rfl, ?_⟩; replace HO400 := Aside0.mk (Kd.Q_below (by (with_reducible repeat (first | apply Kd.Q_alloc | apply Kd.Q_drewN | apply Kd.Q_drew)); exact (Kd.Q_mono (Kd.Q_far (p := ⟨gb406, 1, none⟩) (Kd.Q_far (p := ⟨gb406, 0, none⟩) (Kd.Q_types HO400.out BK406.out (by decide)) (fun _ hk => hk.2) (.slice Ao12 t398.length co12)) (fun _ hk => hk.2) (.slice Ao14 t401.length co14)) (fun _ h_ => h_.1))) hb); replace HO403 := Aside0.mk (Kd.R_below (rT (Kd.R_mono (Kd.R_far (p := ⟨gb406, 1, none⟩) (Kd.R_far (p := ⟨gb406, 0, none⟩) (Kd.R_types HO403.out BK406.out (by decide)) (fun _ hk => hk.2) (.slice Ao12 t398.length co12)) (fun _ hk => hk.2) (.slice Ao14 t401.length co14)) (fun _ h_ => h_.1))) hb); replace BK406 := Aside0.mk (blk_below (g := gb406) (o := .cells #[.slice Ao12 t398.length co12, .slice Ao14 t401.length co14] 25 (0, 0)) (by (with_reducible repeat (first | refine blk_drewN ?_ _ | refine blk_drew ?_ | refine blk_alloc ?_ _)); refine blk_put (cs := #[.slice Ao12 t398.length co12, .slice none 0 0]) ?_ 1 _ rfl; (with_reducible repeat (first | refine blk_drewN ?_ _ | refine blk_drew ?_ | refine blk_alloc ?_ _)); refine blk_put (cs := #[.slice none 0 0, .slice none 0 0]) ?_ 0 _ rfl; (with_reducible repeat (first | refine blk_drewN ?_ _ | refine blk_drew ?_ | refine blk_alloc ?_ _)); exact BK406.out) hb); replace HB := bS HB hb; (try clear hb); (try clear hb2); (try clear hk); (try clear hi); have hcz16_0 := zc0 BK406; have hcz16_1 := zc1 BK406; have hfz16_0 := blk_frozen BK406.out 0; have hfz16_1 := blk_frozen BK406.out 1) | ((with_reducible refine gate_callee (f := 18) rfl ?_); refine gL (some 34) Try.func18 #[.agg #[.slice Ao12 t398.length co12, .slice Ao14 t401.length co14], .int .i64 t404, .int .i64 t405] ?_; (with_reducible refine (spec_MapFar.calls kj2 _ _ t398 _ _ t401 t404 t405 t408 _ ?side1 ?side2 ?side3 ?side4 A8.out).mono ?_); (case side1 => exact cP (Kd.Q_reads' HO400.out).2.2); (case side2 => exact (Kd.Q_reads' HO400.out).2.1); (case side3 => exact cP (Kd.R_reads' HO403.out).2.2); (case side4 => exact (Kd.R_reads' HO403.out).2.1); rintro e w17 ⟨rfl, hb⟩; refine ⟨_, rfl, ?_⟩; replace HO400 := Aside0.mk (Kd.Q_below (by (with_reducible repeat (first | apply Kd.Q_alloc | apply Kd.Q_drewN | apply Kd.Q_drew)); exact HO400.out) hb); replace HO403 := rB HO403 hb; replace BK406 := kB BK406 hb; replace HB := bS HB hb; (try clear hb); (try clear hb2); (try clear hk); (try clear hi)))
    (try simp only [Act.put, List.setIfInBounds_toArray, List.set_cons_zero, List.set_cons_succ])
    go_cut [41] (fun v41 wc => ∃ (kq : Nat) (x41_8 : Bool), v41 = .bool x41_8 ∧ Aside0 (laws_FnFar.j1 kq l1 t404 t405 t407 t408 x41_8 t398 t401 = some r) ∧ Aside0 (kq ≤ kj2) ∧ Aside0 (Kd.Q (Kd.int .i64) 3 wc w.heap.size (fun k_ => oN k_ Ao14 t401 co14) (.slice Ao12 t398.length co12) t398) ∧ Aside0 (Kd.R (Kd.int .i64) 3 wc w.heap.size (fun k_ => oN k_ Ao12 t398 co12) (.slice Ao14 t401.length co14) t401) ∧ Aside0 (wc.heap[gb406]? = some (.cells #[(.slice Ao12 t398.length co12), (.slice Ao14 t401.length co14)] 25 (0, 0))) ∧ Aside0 (Below w.heap.size w wc))
    case first =>
     have H := HC9.out
     clear HC9
     by_cases c18 : t407 = t408
     ·rw [if_pos c18] at H
      have c18b0 : (t407 == t408) = true := beq_iff_eq.mpr c18
      have c18b1 : (t407 != t408) = false := bne_eq_false_iff_eq.mpr c18
      clear c18
      (first | rw [c18b0] | (simp only [i64_w, i32_w]; rw [c18b0]) | skip)
      have H' := Aside0.mk H
      clear H
      go_wp2
      go_meet
      case rel => exact ⟨_, (decide (t407 < 0)), eS, H', ⟨by have := HJ2.out; first | omega | exact Nat.le_refl _⟩, ⟨by (with_reducible repeat (first | apply Kd.Q_alloc | apply Kd.Q_drewN | apply Kd.Q_drew)); exact HO400.out⟩, ⟨rP HO403⟩, ⟨kP BK406⟩, ⟨bP HB⟩⟩
     ·rw [if_neg c18] at H
      have c18b0 : (t407 == t408) = false := beq_eq_false_iff_ne.mpr c18
      have c18b1 : (t407 != t408) = true := bne_iff_ne.mpr c18
      (first | rw [c18b0] | (simp only [i64_w, i32_w]; rw [c18b0]) | skip)
      have H' := Aside0.mk H
      clear H
      go_wp2
      go_meet
      case rel => exact ⟨_, (true), eS, H', ⟨by have := HJ2.out; first | omega | exact Nat.le_refl _⟩, ⟨by (with_reducible repeat (first | apply Kd.Q_alloc | apply Kd.Q_drewN | apply Kd.Q_drew)); exact HO400.out⟩, ⟨rP HO403⟩, ⟨kP BK406⟩, ⟨bP HB⟩⟩
    case rest =>
     clear HC9
     try clear c1
     try clear p2
     try clear c4
     try clear c4b0
     try clear c4b1
     try clear c5
     try clear c16
     try clear c17
     try clear c18
     try clear c18b0
     try clear c18b1
     try clear hcz13_0
     try clear hcz13_1
     try clear hcz16_0
     try clear hcz16_1
     try clear hfz13_0
     try clear hfz13_1
     try clear hfz16_0
     try clear hfz16_1
     try clear p2
     obtain ⟨kq, x41_8, rfl, HA, HJ8, HO_407000, HO_407001, BK406, HB⟩ := hcut
     cases kq with
     | zero => exact absurd HA.out (by simp [laws_FnFar.j1])
     | succ kj8 =>
      have H := HA.out
      clear HA
      simp only [laws_FnFar.j1] at H
      by_cases c19 : x41_8 = true
      ·subst c19
       have H1 : (some (t407 == t408)) = some r := by rw [if_pos rfl] at H; exact H
       clear H
       have H := H1
       clear H1
       obtain rfl := Option.some.inj H
       go_wp2
       go_ret
       exact ⟨eR, bP HB⟩
      ·replace c19 := Bool.eq_false_iff.mpr c19
       subst c19
       have H1 : ((impl_MapCounts.f kj8 t398 t401).bind fun bt409 => (if (t398.length : Int) = 0 then (none) else (if bt409.2 = true then ((impl_MapFar.f kj8 t398 t401 t405 t404).bind fun t413 => (if t413 = t407 then ((impl_MapFar.f kj8 t398 t401 t404 ((l1.length : Int) % (t398.length : Int))).bind fun t414 => ((impl_MapFar.f kj8 t398 t401 ((l1.length : Int) % (t398.length : Int)) t405).bind fun t415 => (if t407 ≤ (wrap64 (t414 + t415)) then (if 0 ≤ ((l1.length : Int) % (t398.length : Int)) then (if ((l1.length : Int) % (t398.length : Int)) < (t398.length : Int) then ((impl_MapFar.f kj8 t398 t401 ((l1.length : Int) % (t398.length : Int)) (rd t398 ((l1.length : Int) % (t398.length : Int)))).bind fun t417 => (if t417 = 0 then (if ((l1.length : Int) % (t398.length : Int)) < (t401.length : Int) then ((impl_MapFar.f kj8 t398 t401 ((l1.length : Int) % (t398.length : Int)) (rd t401 ((l1.length : Int) % (t398.length : Int)))).bind fun t419 => (if t419 ≤ 1 then (if 0 < (bt409.1.length : Int) then (some (decide (t407 < (rd bt409.1 0)))) else (none)) else (some false))) else (none)) else (some false))) else (none)) else (none)) else (some false)))) else (some false))) else (some false)))) = some r := by rw [if_neg (show ¬ (false = true) by decide)] at H; exact H
       clear H
       have H := H1
       clear H1
       replace H := Option.bind_eq_some_iff.mp H
       obtain ⟨⟨t409, t412⟩, A200, H⟩ := H
       replace H : (if (t398.length : Int) = 0 then (none) else (if t412 = true then ((impl_MapFar.f kj8 t398 t401 t405 t404).bind fun t413 => (if t413 = t407 then ((impl_MapFar.f kj8 t398 t401 t404 ((l1.length : Int) % (t398.length : Int))).bind fun t414 => ((impl_MapFar.f kj8 t398 t401 ((l1.length : Int) % (t398.length : Int)) t405).bind fun t415 => (if t407 ≤ (wrap64 (t414 + t415)) then (if 0 ≤ ((l1.length : Int) % (t398.length : Int)) then (if ((l1.length : Int) % (t398.length : Int)) < (t398.length : Int) then ((impl_MapFar.f kj8 t398 t401 ((l1.length : Int) % (t398.length : Int)) (rd t398 ((l1.length : Int) % (t398.length : Int)))).bind fun t417 => (if t417 = 0 then (if ((l1.length : Int) % (t398.length : Int)) < (t401.length : Int) then ((impl_MapFar.f kj8 t398 t401 ((l1.length : Int) % (t398.length : Int)) (rd t401 ((l1.length : Int) % (t398.length : Int)))).bind fun t419 => (if t419 ≤ 1 then (if 0 < (t409.length : Int) then (some (decide (t407 < (rd t409 0)))) else (none)) else (some false))) else (none)) else (some false))) else (none)) else (none)) else (some false)))) else (some false))) else (some false))) = some r := H
       have A20 := Aside0.mk A200
       clear A200
       by_cases c21 : (t398.length : Int) = 0
       ·rw [if_pos c21] at H
        exact absurd H (by simp)
       ·rw [if_neg c21] at H
        have c21b0 : ((t398.length : Int) == 0) = false := beq_eq_false_iff_ne.mpr c21
        have c21b1 : ((t398.length : Int) != 0) = true := bne_iff_ne.mpr c21
        have c21b2 : ¬ (t398 = []) := fun h_ => c21 (by rw [h_]; rfl)
        by_cases c22 : t412 = true
        ·subst c22
         have H1 : ((impl_MapFar.f kj8 t398 t401 t405 t404).bind fun t413 => (if t413 = t407 then ((impl_MapFar.f kj8 t398 t401 t404 ((l1.length : Int) % (t398.length : Int))).bind fun t414 => ((impl_MapFar.f kj8 t398 t401 ((l1.length : Int) % (t398.length : Int)) t405).bind fun t415 => (if t407 ≤ (wrap64 (t414 + t415)) then (if 0 ≤ ((l1.length : Int) % (t398.length : Int)) then (if ((l1.length : Int) % (t398.length : Int)) < (t398.length : Int) then ((impl_MapFar.f kj8 t398 t401 ((l1.length : Int) % (t398.length : Int)) (rd t398 ((l1.length : Int) % (t398.length : Int)))).bind fun t417 => (if t417 = 0 then (if ((l1.length : Int) % (t398.length : Int)) < (t401.length : Int) then ((impl_MapFar.f kj8 t398 t401 ((l1.length : Int) % (t398.length : Int)) (rd t401 ((l1.length : Int) % (t398.length : Int)))).bind fun t419 => (if t419 ≤ 1 then (if 0 < (t409.length : Int) then (some (decide (t407 < (rd t409 0)))) else (none)) else (some false))) else (none)) else (some false))) else (none)) else (none)) else (some false)))) else (some false))) = some r := by rw [if_pos rfl] at H; exact H
         clear H
         have H := H1
         clear H1
         replace H := Option.bind_eq_some_iff.mp H
         obtain ⟨t413, A230, H⟩ := H
         replace H : (if t413 = t407 then ((impl_MapFar.f kj8 t398 t401 t404 ((l1.length : Int) % (t398.length : Int))).bind fun t414 => ((impl_MapFar.f kj8 t398 t401 ((l1.length : Int) % (t398.length : Int)) t405).bind fun t415 => (if t407 ≤ (wrap64 (t414 + t415)) then (if 0 ≤ ((l1.length : Int) % (t398.length : Int)) then (if ((l1.length : Int) % (t398.length : Int)) < (t398.length : Int) then ((impl_MapFar.f kj8 t398 t401 ((l1.length : Int) % (t398.length : Int)) (rd t398 ((l1.length : Int) % (t398.length : Int)))).bind fun t417 => (if t417 = 0 then (if ((l1.length : Int) % (t398.length : Int)) < (t401.length : Int) then ((impl_MapFar.f kj8 t398 t401 ((l1.length : Int) % (t398.length : Int)) (rd t401 ((l1.length : Int) % (t398.length : Int)))).bind fun t419 => (if t419 ≤ 1 then (if 0 < (t409.length : Int) then (some (decide (t407 < (rd t409 0)))) else (none)) else (some false))) else (none)) else (some false))) else (none)) else (none)) else (some false)))) else (some false)) = some r := H
         have A23 := Aside0.mk A230
         clear A230
         by_cases c24 : t413 = t407
         ·rw [if_pos c24] at H
          have c24b0 : (t413 == t407) = true := beq_iff_eq.mpr c24
          have c24b1 : (t413 != t407) = false := bne_eq_false_iff_eq.mpr c24
          clear c24
          replace H := Option.bind_eq_some_iff.mp H
          obtain ⟨t414, A250, H⟩ := H
          replace H : ((impl_MapFar.f kj8 t398 t401 ((l1.length : Int) % (t398.length : Int)) t405).bind fun t415 => (if t407 ≤ (wrap64 (t414 + t415)) then (if 0 ≤ ((l1.length : Int) % (t398.length : Int)) then (if ((l1.length : Int) % (t398.length : Int)) < (t398.length : Int) then ((impl_MapFar.f kj8 t398 t401 ((l1.length : Int) % (t398.length : Int)) (rd t398 ((l1.length : Int) % (t398.length : Int)))).bind fun t417 => (if t417 = 0 then (if ((l1.length : Int) % (t398.length : Int)) < (t401.length : Int) then ((impl_MapFar.f kj8 t398 t401 ((l1.length : Int) % (t398.length : Int)) (rd t401 ((l1.length : Int) % (t398.length : Int)))).bind fun t419 => (if t419 ≤ 1 then (if 0 < (t409.length : Int) then (some (decide (t407 < (rd t409 0)))) else (none)) else (some false))) else (none)) else (some false))) else (none)) else (none)) else (some false))) = some r := H
          have A25 := Aside0.mk A250
          clear A250
          replace H := Option.bind_eq_some_iff.mp H
          obtain ⟨t415, A260, H⟩ := H
          replace H : (if t407 ≤ (wrap64 (t414 + t415)) then (if 0 ≤ ((l1.length : Int) % (t398.length : Int)) then (if ((l1.length : Int) % (t398.length : Int)) < (t398.length : Int) then ((impl_MapFar.f kj8 t398 t401 ((l1.length : Int) % (t398.length : Int)) (rd t398 ((l1.length : Int) % (t398.length : Int)))).bind fun t417 => (if t417 = 0 then (if ((l1.length : Int) % (t398.length : Int)) < (t401.length : Int) then ((impl_MapFar.f kj8 t398 t401 ((l1.length : Int) % (t398.length : Int)) (rd t401 ((l1.length : Int) % (t398.length : Int)))).bind fun t419 => (if t419 ≤ 1 then (if 0 < (t409.length : Int) then (some (decide (t407 < (rd t409 0)))) else (none)) else (some false))) else (none)) else (some false))) else (none)) else (none)) else (some false)) = some r := H
          have A26 := Aside0.mk A260
          clear A260
          by_cases c27 : t407 ≤ (wrap64 (t414 + t415))
          ·rw [if_pos c27] at H
           have c27b0 : decide (t407 ≤ (wrap64 (t414 + t415))) = true := decide_eq_true c27
           clear c27
           obtain ⟨ji28, hji28⟩ : ∃ j_ : Int, ((l1.length : Int) % (t398.length : Int)) = j_ := ⟨_, rfl⟩
           replace H : (if 0 ≤ (ji28) then (if (ji28) < (t398.length : Int) then ((impl_MapFar.f kj8 t398 t401 (ji28) (rd t398 (ji28))).bind fun t417 => (if t417 = 0 then (if (ji28) < (t401.length : Int) then ((impl_MapFar.f kj8 t398 t401 (ji28) (rd t401 (ji28))).bind fun t419 => (if t419 ≤ 1 then (if 0 < (t409.length : Int) then (some (decide (t407 < (rd t409 0)))) else (none)) else (some false))) else (none)) else (some false))) else (none)) else (none)) = some r := by first | (rw [hji28] at H; exact H) | (simp only [hji28] at H ⊢; exact H)
           (try rw [hji28] at A20)
           (try rw [hji28] at A23)
           (try rw [hji28] at A25)
           (try rw [hji28] at A26)
           by_cases c29 : 0 ≤ (ji28)
           ·rw [if_pos c29] at H
            have c29b0 : decide (0 ≤ (ji28)) = true := decide_eq_true c29
            clear c29
            by_cases c30 : (ji28) < (t398.length : Int)
            ·rw [if_pos c30] at H
             have c30b0 : decide ((ji28) < (t398.length : Int)) = true := decide_eq_true c30
             clear c30
             replace H := Option.bind_eq_some_iff.mp H
             obtain ⟨t417, A310, H⟩ := H
             replace H : (if t417 = 0 then (if (ji28) < (t401.length : Int) then ((impl_MapFar.f kj8 t398 t401 (ji28) (rd t401 (ji28))).bind fun t419 => (if t419 ≤ 1 then (if 0 < (t409.length : Int) then (some (decide (t407 < (rd t409 0)))) else (none)) else (some false))) else (none)) else (some false)) = some r := H
             have A31 := Aside0.mk A310
             clear A310
             by_cases c32 : t417 = 0
             ·rw [if_pos c32] at H
              have c32b0 : (t417 == 0) = true := beq_iff_eq.mpr c32
              have c32b1 : (t417 != 0) = false := bne_eq_false_iff_eq.mpr c32
              clear c32
              by_cases c33 : (ji28) < (t401.length : Int)
              ·rw [if_pos c33] at H
               have c33b0 : decide ((ji28) < (t401.length : Int)) = true := decide_eq_true c33
               clear c33
               replace H := Option.bind_eq_some_iff.mp H
               obtain ⟨t419, A340, H⟩ := H
               replace H : (if t419 ≤ 1 then (if 0 < (t409.length : Int) then (some (decide (t407 < (rd t409 0)))) else (none)) else (some false)) = some r := H
               have A34 := Aside0.mk A340
               clear A340
               by_cases c35 : t419 ≤ 1
               ·rw [if_pos c35] at H
                have c35b0 : decide (t419 ≤ 1) = true := decide_eq_true c35
                clear c35
                by_cases c36 : 0 < (t409.length : Int)
                ·rw [if_pos c36] at H
                 have c36b0 : decide (0 < (t409.length : Int)) = true := decide_eq_true c36
                 have c36b1 : decide (0 < t409.length) = true := decide_eq_true (by omega)
                 clear c36
                 obtain rfl := Option.some.inj H
                 have hcz37_0 := zc0 BK406
                 have hcz37_1 := zc1 BK406
                 have hfz37_0 := blk_frozen BK406.out 0
                 have hfz37_1 := blk_frozen BK406.out 1
                 try go_wp2_with (first | ((with_reducible refine gate_callee (f := 13) rfl ?_); refine gL (some 47) Try.func13 #[.agg #[.slice Ao12 t398.length co12, .slice Ao14 t401.length co14]] ?_; (with_reducible refine (impl_MapCounts.calls kj8 _ _ t398 _ _ t401 t409 true _ ?side1 ?side2 ?side3 ?side4 A20.out).mono ?_); (case side1 => exact cP (Kd.Q_reads' HO_407000.out).2.2); (case side2 => exact (Kd.Q_reads' HO_407000.out).2.1); (case side3 => exact cP (Kd.R_reads' HO_407001.out).2.2); (case side4 => exact (Kd.R_reads' HO_407001.out).2.1); rintro e w38 ⟨v410, rfl, ho0, hb⟩; refine ⟨_, rfl, ?_⟩; have HO411 := Aside0.mk (Kd.R_lower (Kd.R_new' (Kd.R_new' ho0 (Kd.Q_lt (by (with_reducible repeat (first | apply Kd.Q_alloc | apply Kd.Q_drewN | apply Kd.Q_drew)); exact HO_407000.out))) (Kd.R_lt (rP HO_407001))) (below_size (bP HB))); replace HO_407000 := Aside0.mk (Kd.Q_elder' (by (with_reducible repeat (first | apply Kd.Q_alloc | apply Kd.Q_drewN | apply Kd.Q_drew)); exact HO_407000.out) (Kd.R_base ho0) hb); replace HO_407001 := Aside0.mk (Kd.R_elder' (rP HO_407001) (Kd.R_base ho0) hb); replace BK406 := kB BK406 hb; replace HB := bS HB hb; (try clear hb); (try clear hb2); (try clear hk); (try clear hi); (try clear ho0); have hcz39_0 := zc0 BK406; have hcz39_1 := zc1 BK406; have hfz39_0 := blk_frozen BK406.out 0; have hfz39_1 := blk_frozen BK406.out 1))
                 have n0_ := Aside0.mk (Kd.Q_drew HO_407000.out)
                 have n1_ := Aside0.mk (Kd.R_drew HO_407001.out)
                 have n2_ := Aside0.mk (Kd.R_drew HO411.out)
                 have n3_ := Aside0.mk (blk_drew BK406.out)
                 have n4_ := Aside0.mk (below_drew1 HB.out)
                 clear HO_407000
                 clear HO_407001
                 clear HO411
                 clear BK406
                 clear HB
                 have HO_407000 := n0_
                 have HO_407001 := n1_
                 have HO411 := n2_
                 have BK406 := n3_
                 have HB := n4_
                 clear n0_ n1_ n2_ n3_ n4_
                 have p416 : 0 ≤ ((ji28) : Int) := dT
                 have q416 : (ji28) < (t398.length : Int) := dT
                 obtain ⟨ad416, e416, hx416_0⟩ := Kd.at_int (Kd.Q_reads' HO_407000.out).2.2 (ji28) p416 q416
                 cases e416
                 replace p416 := eq_true p416
                 replace q416 := eq_true q416
                 have p418 : 0 ≤ ((ji28) : Int) := dT
                 have q418 : (ji28) < (t401.length : Int) := dT
                 obtain ⟨ad418, e418, hx418_0⟩ := Kd.at_int (Kd.R_reads' HO_407001.out).2.2 (ji28) p418 q418
                 cases e418
                 replace p418 := eq_true p418
                 replace q418 := eq_true q418
                 have p420 : 0 ≤ (0 : Int) := (by omega)
                 have q420 : 0 < (t409.length : Int) := dT
                 obtain ⟨Ao411, co411, eo411⟩ := Kd.R_slice HO411.out
                 subst eo411
                 obtain ⟨ad420, e420, hx420_0⟩ := Kd.at_int (Kd.R_reads' HO411.out).2.2 0 p420 q420
                 cases e420
                 have qi420 : (0 < t409.length) = True := eq_true (by omega)
                 (try rw [show ((0 : Int)).toNat = 0 from rfl] at hx420_0)
                 (try rw [Addr.add_zero'] at hx420_0)
                 replace p420 := eq_true p420
                 replace q420 := eq_true q420
                 refine start_ (n := 52) (S := fun w' => w'.cell? ⟨gb406, 0, none⟩ = some (.slice (some ad416) t398.length co12) ∧ w'.cell? ⟨gb406, 1, none⟩ = some (.slice (some ad418) t401.length co14) ∧ w'.cell? (ad416.add ((ji28)).toNat) = some (.int .i64 (rd t398 (ji28))) ∧ w'.cell? (ad418.add ((ji28)).toNat) = some (.int .i64 (rd t401 (ji28))) ∧ w'.cell? ad420 = some (.int .i64 (rd t409 0))) (ds := []) #[false, false, false, false, false, false, false, false, false, false, false, false, false, false, false, false, false, false, false, false, false, false, false, false, false, false, false, false, false, false, false, false, false, false, false, false, false, false, false, false, false, false, false, false, false, false, false, false, false, false, false, false] (by kernel_rfl) rfl rfl ⟨(blk_cell BK406.out 0).trans rfl, (blk_cell BK406.out 1).trans rfl, hx416_0, hx418_0, hx420_0⟩ (fun hHeld => ?_); refine with_tabW laws_FnFar.tab10 laws_FnFar.bits10 (fun HT_ HW_ => ?_)
                 generalize w38.drew = w40 at HO_407000 HO_407001 HO411 BK406 HB hx416_0 hx418_0 hx420_0 hHeld ⊢
                 refine pure_ (i := 0) (N := some 56) (v := ?_) (a' := ?_) #[true, false, false, false, false, false, false, false, false, false, false, false, false, false, false, false, false, false, false, false, false, false, false, false, false, false, false, false, false, false, false, false, false, false, false, false, false, false, false, false, false, false, false, false, false, false, false, false, false, false, false, false] rfl rfl (any_of HT_.out (by kernel_rfl)) (fun _ _ _ h => h) (Or.inl ⟨by rfl, ?_⟩) ?_ ?_
                 rotate_left
                 ·intro w'
                  go_simp
                  with_reducible rfl
                 rotate_left
                 ·simp only [Act.put, List.setIfInBounds_toArray, List.set_cons_zero, List.set_cons_succ, i64_w, i32_w]
                  rfl
                 refine pure_ (i := 1) (N := some 57) (v := ?_) (a' := ?_) #[true, true, false, false, false, false, false, false, false, false, false, false, false, false, false, false, false, false, false, false, false, false, false, false, false, false, false, false, false, false, false, false, false, false, false, false, false, false, false, false, false, false, false, false, false, false, false, false, false, false, false, false] rfl rfl (any_of HT_.out (by kernel_rfl)) (fun _ _ _ h => h) (Or.inl ⟨by rfl, ?_⟩) ?_ ?_
                 rotate_left
                 ·intro w'
                  go_simp
                  with_reducible rfl
                 rotate_left
                 ·simp only [Act.put, List.setIfInBounds_toArray, List.set_cons_zero, List.set_cons_succ, i64_w, i32_w]
                  rfl
                 refine pure_ (i := 3) (N := some 59) (v := ?_) (a' := ?_) #[true, true, false, true, false, false, false, false, false, false, false, false, false, false, false, false, false, false, false, false, false, false, false, false, false, false, false, false, false, false, false, false, false, false, false, false, false, false, false, false, false, false, false, false, false, false, false, false, false, false, false, false] rfl rfl (any_of HT_.out (by kernel_rfl)) (fun _ _ _ h => h) (Or.inl ⟨by rfl, ?_⟩) ?_ ?_
                 rotate_left
                 ·intro w'
                  go_simp
                  with_reducible rfl
                 rotate_left
                 ·simp only [Act.put, List.setIfInBounds_toArray, List.set_cons_zero, List.set_cons_succ, i64_w, i32_w]
                  rfl
                 refine pure_ (i := 4) (N := some 60) (v := ?_) (a' := ?_) #[true, true, false, true, true, false, false, false, false, false, false, false, false, false, false, false, false, false, false, false, false, false, false, false, false, false, false, false, false, false, false, false, false, false, false, false, false, false, false, false, false, false, false, false, false, false, false, false, false, false, false, false] rfl rfl (any_of HT_.out (by kernel_rfl)) (fun _ _ _ h => h) (Or.inl ⟨by rfl, ?_⟩) ?_ ?_
                 rotate_left
                 ·intro w'
                  go_simp
                  with_reducible rfl
                 rotate_left
                 ·simp only [Act.put, List.setIfInBounds_toArray, List.set_cons_zero, List.set_cons_succ, i64_w, i32_w]
                  rfl
                 refine pure_ (i := 6) (N := some 62) (v := ?_) (a' := ?_) #[true, true, false, true, true, false, true, false, false, false, false, false, false, false, false, false, false, false, false, false, false, false, false, false, false, false, false, false, false, false, false, false, false, false, false, false, false, false, false, false, false, false, false, false, false, false, false, false, false, false, false, false] rfl rfl (any_of HT_.out (by kernel_rfl)) (fun _ _ _ h => h) (Or.inl ⟨by rfl, ?_⟩) ?_ ?_
                 rotate_left
                 ·intro w'
                  go_simp
                  with_reducible rfl
                 rotate_left
                 ·simp only [Act.put, List.setIfInBounds_toArray, List.set_cons_zero, List.set_cons_succ, i64_w, i32_w]
                  rfl
                 refine take_ (i := 2) (N := some 58) (v := ?_) (a' := ?_) #[true, true, true, true, true, false, true, false, false, false, false, false, false, false, false, false, false, false, false, false, false, false, false, false, false, false, false, false, false, false, false, false, false, false, false, false, false, false, false, false, false, false, false, false, false, false, false, false, false, false, false, false] rfl rfl (take_ofW HT_.out HW_.out (by kernel_rfl)) (fun _ _ _ h => h) (Or.inl ⟨by rfl, ?_⟩) hHeld ?_ ?_
                 rotate_left
                 ·rintro w' ⟨s0, s1, s2, s3, s4⟩
                  go_simp
                  with_reducible rfl
                 rotate_left
                 ·simp only [Act.put, List.setIfInBounds_toArray, List.set_cons_zero, List.set_cons_succ, i64_w, i32_w]
                  rfl
                 refine one_ (i := 5) (N := some 61) #[true, true, true, true, true, true, true, false, false, false, false, false, false, false, false, false, false, false, false, false, false, false, false, false, false, false, false, false, false, false, false, false, false, false, false, false, false, false, false, false, false, false, false, false, false, false, false, false, false, false, false, false] rfl rfl (one_of HT_.out (by kernel_rfl)) (by decide) (fun K hK => ?_)
                 refine goes_ Try.func17 (by kernel_rfl) rfl #[.agg #[.slice (some ad416) t398.length co12, .slice (some ad418) t401.length co14], .int .i64 t405, .int .i64 t404] (by rfl) rfl rfl (by (try simp only [List.map_toArray, List.map_cons, List.map_nil]); first | done | rfl | (simp only [List.length_drop, List.length_take]; rfl)) ?_
                 with_reducible refine (impl_MapFar.calls kj8 _ _ t398 _ _ t401 t405 t404 t413 _ ?side1 ?side2 ?side3 ?side4 A23.out).mono ?_
                 (case side1 => exact cP (Kd.Q_reads' HO_407000.out).2.2)
                 (case side2 => exact (Kd.Q_reads' HO_407000.out).2.1)
                 (case side3 => exact cP (Kd.R_reads' HO_407001.out).2.2)
                 (case side4 => exact (Kd.R_reads' HO_407001.out).2.1)
                 rintro e w41 ⟨rfl, hb⟩
                 have HS2_ := (hb.cell (World.block_lt_of_cell? _ _ (hHeld.2.2.1))).trans (hHeld.2.2.1)
                 have HS3_ := (hb.cell (World.block_lt_of_cell? _ _ (hHeld.2.2.2.1))).trans (hHeld.2.2.2.1)
                 have HS4_ := (hb.cell (World.block_lt_of_cell? _ _ (hHeld.2.2.2.2))).trans (hHeld.2.2.2.2)
                 refine ⟨_, rfl, ?_⟩
                 have n0_ := Aside0.mk (Kd.Q_below (by (with_reducible repeat (first | apply Kd.Q_alloc | apply Kd.Q_drewN | apply Kd.Q_drew)); exact HO_407000.out) hb)
                 have n1_ := rB HO_407001 hb
                 have n2_ := rB HO411 hb
                 have n3_ := kB BK406 hb
                 have n4_ := bS HB hb
                 clear HO_407000
                 clear HO_407001
                 clear HO411
                 clear BK406
                 clear HB
                 have HO_407000 := n0_
                 have HO_407001 := n1_
                 have HO411 := n2_
                 have BK406 := n3_
                 have HB := n4_
                 clear n0_ n1_ n2_ n3_ n4_
                 (try clear hb)
                 (try clear hb2)
                 (try clear hk)
                 (try clear hi)
                 refine hK.out _ _ ⟨(blk_cell BK406.out 0).trans rfl, (blk_cell BK406.out 1).trans rfl, HS2_, HS3_, HS4_⟩ (fun hHeld => ?_)
                 clear hK K
                 refine norm_ (a' := ?_) ?_ ?_
                 rotate_left
                 ·show Act.put _ (some 61) _ = _
                  simp only [Act.put, List.setIfInBounds_toArray, List.set_cons_zero, List.set_cons_succ, i64_w, i32_w]
                  rfl
                 refine pure_ (i := 7) (N := some 63) (v := ?_) (a' := ?_) #[true, true, true, true, true, true, true, true, false, false, false, false, false, false, false, false, false, false, false, false, false, false, false, false, false, false, false, false, false, false, false, false, false, false, false, false, false, false, false, false, false, false, false, false, false, false, false, false, false, false, false, false] rfl rfl (any_of HT_.out (by kernel_rfl)) (fun _ _ _ h => h) (Or.inl ⟨by rfl, ?_⟩) ?_ ?_
                 rotate_left
                 ·intro w'
                  go_simp
                  with_reducible rfl
                 rotate_left
                 ·simp only [Act.put, List.setIfInBounds_toArray, List.set_cons_zero, List.set_cons_succ, i64_w, i32_w]
                  rfl
                 refine pure_ (i := 8) (N := some 64) (v := ?_) (a' := ?_) #[true, true, true, true, true, true, true, true, true, false, false, false, false, false, false, false, false, false, false, false, false, false, false, false, false, false, false, false, false, false, false, false, false, false, false, false, false, false, false, false, false, false, false, false, false, false, false, false, false, false, false, false] rfl rfl (any_of HT_.out (by kernel_rfl)) (fun _ _ _ h => h) (Or.inl ⟨by rfl, ?_⟩) ?_ ?_
                 rotate_left
                 ·intro w'
                  go_simp
                  with_reducible rfl
                 rotate_left
                 ·simp only [Act.put, List.setIfInBounds_toArray, List.set_cons_zero, List.set_cons_succ, i64_w, i32_w]
                  rfl
                 refine pure_ (i := 9) (N := some 65) (v := ?_) (a' := ?_) #[true, true, true, true, true, true, true, true, true, true, false, false, false, false, false, false, false, false, false, false, false, false, false, false, false, false, false, false, false, false, false, false, false, false, false, false, false, false, false, false, false, false, false, false, false, false, false, false, false, false, false, false] rfl rfl (any_of HT_.out (by kernel_rfl)) (fun _ _ _ h => h) (Or.inl ⟨by rfl, ?_⟩) ?_ ?_
                 rotate_left
                 ·intro w'
                  go_simp
                  with_reducible rfl
                 rotate_left
                 ·simp only [Act.put, List.setIfInBounds_toArray, List.set_cons_zero, List.set_cons_succ, i64_w, i32_w]
                  rfl
                 refine pure_ (i := 10) (N := some 66) (v := ?_) (a' := ?_) #[true, true, true, true, true, true, true, true, true, true, true, false, false, false, false, false, false, false, false, false, false, false, false, false, false, false, false, false, false, false, false, false, false, false, false, false, false, false, false, false, false, false, false, false, false, false, false, false, false, false, false, false] rfl rfl (any_of HT_.out (by kernel_rfl)) (fun _ _ _ h => h) (Or.inl ⟨by rfl, ?_⟩) ?_ ?_
                 rotate_left
                 ·intro w'
                  go_simp
                  with_reducible rfl
                 rotate_left
                 ·simp only [Act.put, List.setIfInBounds_toArray, List.set_cons_zero, List.set_cons_succ, i64_w, i32_w]
                  rfl
                 refine pure_ (i := 12) (N := some 68) (v := ?_) (a' := ?_) #[true, true, true, true, true, true, true, true, true, true, true, false, true, false, false, false, false, false, false, false, false, false, false, false, false, false, false, false, false, false, false, false, false, false, false, false, false, false, false, false, false, false, false, false, false, false, false, false, false, false, false, false] rfl rfl (any_of HT_.out (by kernel_rfl)) (fun _ _ _ h => h) (Or.inl ⟨by rfl, ?_⟩) ?_ ?_
                 rotate_left
                 ·intro w'
                  go_simp
                  with_reducible rfl
                 rotate_left
                 ·simp only [Act.put, List.setIfInBounds_toArray, List.set_cons_zero, List.set_cons_succ, i64_w, i32_w]
                  rfl
                 refine pure_ (i := 13) (N := some 69) (v := ?_) (a' := ?_) #[true, true, true, true, true, true, true, true, true, true, true, false, true, true, false, false, false, false, false, false, false, false, false, false, false, false, false, false, false, false, false, false, false, false, false, false, false, false, false, false, false, false, false, false, false, false, false, false, false, false, false, false] rfl rfl (any_of HT_.out (by kernel_rfl)) (fun _ _ _ h => h) (Or.inl ⟨by rfl, ?_⟩) ?_ ?_
                 rotate_left
                 ·intro w'
                  go_simp
                  with_reducible rfl
                 rotate_left
                 ·simp only [Act.put, List.setIfInBounds_toArray, List.set_cons_zero, List.set_cons_succ, i64_w, i32_w]
                  rfl
                 refine pure_ (i := 16) (N := some 72) (v := ?_) (a' := ?_) #[true, true, true, true, true, true, true, true, true, true, true, false, true, true, false, false, true, false, false, false, false, false, false, false, false, false, false, false, false, false, false, false, false, false, false, false, false, false, false, false, false, false, false, false, false, false, false, false, false, false, false, false] rfl rfl (any_of HT_.out (by kernel_rfl)) (fun _ _ _ h => h) (Or.inl ⟨by rfl, ?_⟩) ?_ ?_
                 rotate_left
                 ·intro w'
                  go_simp
                  with_reducible rfl
                 rotate_left
                 ·simp only [Act.put, List.setIfInBounds_toArray, List.set_cons_zero, List.set_cons_succ, i64_w, i32_w]
                  rfl
                 refine pure_ (i := 17) (N := some 73) (v := ?_) (a' := ?_) #[true, true, true, true, true, true, true, true, true, true, true, false, true, true, false, false, true, true, false, false, false, false, false, false, false, false, false, false, false, false, false, false, false, false, false, false, false, false, false, false, false, false, false, false, false, false, false, false, false, false, false, false] rfl rfl (any_of HT_.out (by kernel_rfl)) (fun _ _ _ h => h) (Or.inl ⟨by rfl, ?_⟩) ?_ ?_
                 rotate_left
                 ·intro w'
                  go_simp
                  with_reducible rfl
                 rotate_left
                 ·simp only [Act.put, List.setIfInBounds_toArray, List.set_cons_zero, List.set_cons_succ, i64_w, i32_w]
                  rfl
                 refine take_ (i := 11) (N := some 67) (v := ?_) (a' := ?_) #[true, true, true, true, true, true, true, true, true, true, true, true, true, true, false, false, true, true, false, false, false, false, false, false, false, false, false, false, false, false, false, false, false, false, false, false, false, false, false, false, false, false, false, false, false, false, false, false, false, false, false, false] rfl rfl (take_ofW HT_.out HW_.out (by kernel_rfl)) (fun _ _ _ h => h) (Or.inl ⟨by rfl, ?_⟩) hHeld ?_ ?_
                 rotate_left
                 ·rintro w' ⟨s0, s1, s2, s3, s4⟩
                  go_simp
                  with_reducible rfl
                 rotate_left
                 ·simp only [Act.put, List.setIfInBounds_toArray, List.set_cons_zero, List.set_cons_succ, i64_w, i32_w]
                  rfl
                 refine take_ (i := 15) (N := some 71) (v := ?_) (a' := ?_) #[true, true, true, true, true, true, true, true, true, true, true, true, true, true, false, true, true, true, false, false, false, false, false, false, false, false, false, false, false, false, false, false, false, false, false, false, false, false, false, false, false, false, false, false, false, false, false, false, false, false, false, false] rfl rfl (take_ofW HT_.out HW_.out (by kernel_rfl)) (fun _ _ _ h => h) (Or.inl ⟨by rfl, ?_⟩) hHeld ?_ ?_
                 rotate_left
                 ·rintro w' ⟨s0, s1, s2, s3, s4⟩
                  go_simp
                  with_reducible rfl
                 rotate_left
                 ·simp only [Act.put, List.setIfInBounds_toArray, List.set_cons_zero, List.set_cons_succ, i64_w, i32_w]
                  rfl
                 refine one_ (i := 14) (N := some 70) #[true, true, true, true, true, true, true, true, true, true, true, true, true, true, true, true, true, true, false, false, false, false, false, false, false, false, false, false, false, false, false, false, false, false, false, false, false, false, false, false, false, false, false, false, false, false, false, false, false, false, false, false] rfl rfl (one_of HT_.out (by kernel_rfl)) (by decide) (fun K hK => ?_)
                 refine goes_ Try.func17 (by kernel_rfl) rfl #[.agg #[.slice (some ad416) t398.length co12, .slice (some ad418) t401.length co14], .int .i64 t404, .int .i64 ji28] (by rfl) rfl rfl (by (try simp only [List.map_toArray, List.map_cons, List.map_nil]); first | done | (simp only [hji28]; rfl) | rfl | (simp only [List.length_drop, List.length_take]; rfl)) ?_
                 with_reducible refine (impl_MapFar.calls kj8 _ _ t398 _ _ t401 t404 ji28 t414 _ ?side1 ?side2 ?side3 ?side4 A25.out).mono ?_
                 (case side1 => exact cP (Kd.Q_reads' HO_407000.out).2.2)
                 (case side2 => exact (Kd.Q_reads' HO_407000.out).2.1)
                 (case side3 => exact cP (Kd.R_reads' HO_407001.out).2.2)
                 (case side4 => exact (Kd.R_reads' HO_407001.out).2.1)
                 rintro e w42 ⟨rfl, hb⟩
                 have HS2_ := (hb.cell (World.block_lt_of_cell? _ _ (hHeld.2.2.1))).trans (hHeld.2.2.1)
                 have HS3_ := (hb.cell (World.block_lt_of_cell? _ _ (hHeld.2.2.2.1))).trans (hHeld.2.2.2.1)
                 have HS4_ := (hb.cell (World.block_lt_of_cell? _ _ (hHeld.2.2.2.2))).trans (hHeld.2.2.2.2)
                 refine ⟨_, rfl, ?_⟩
                 have n0_ := Aside0.mk (Kd.Q_below (by (with_reducible repeat (first | apply Kd.Q_alloc | apply Kd.Q_drewN | apply Kd.Q_drew)); exact HO_407000.out) hb)
                 have n1_ := rB HO_407001 hb
                 have n2_ := rB HO411 hb
                 have n3_ := kB BK406 hb
                 have n4_ := bS HB hb
                 clear HO_407000
                 clear HO_407001
                 clear HO411
                 clear BK406
                 clear HB
                 have HO_407000 := n0_
                 have HO_407001 := n1_
                 have HO411 := n2_
                 have BK406 := n3_
                 have HB := n4_
                 clear n0_ n1_ n2_ n3_ n4_
                 (try clear hb)
                 (try clear hb2)
                 (try clear hk)
                 (try clear hi)
                 refine hK.out _ _ ⟨(blk_cell BK406.out 0).trans rfl, (blk_cell BK406.out 1).trans rfl, HS2_, HS3_, HS4_⟩ (fun hHeld => ?_)
                 clear hK K
                 refine norm_ (a' := ?_) ?_ ?_
                 rotate_left
                 ·show Act.put _ (some 70) _ = _
                  simp only [Act.put, List.setIfInBounds_toArray, List.set_cons_zero, List.set_cons_succ, i64_w, i32_w]
                  rfl
                 refine one_ (i := 18) (N := some 74) #[true, true, true, true, true, true, true, true, true, true, true, true, true, true, true, true, true, true, true, false, false, false, false, false, false, false, false, false, false, false, false, false, false, false, false, false, false, false, false, false, false, false, false, false, false, false, false, false, false, false, false, false] rfl rfl (one_of HT_.out (by kernel_rfl)) (by decide) (fun K hK => ?_)
                 refine goes_ Try.func17 (by kernel_rfl) rfl #[.agg #[.slice (some ad416) t398.length co12, .slice (some ad418) t401.length co14], .int .i64 ji28, .int .i64 t405] (by rfl) rfl rfl (by (try simp only [List.map_toArray, List.map_cons, List.map_nil]); first | done | (simp only [hji28]; rfl) | rfl | (simp only [List.length_drop, List.length_take]; rfl)) ?_
                 with_reducible refine (impl_MapFar.calls kj8 _ _ t398 _ _ t401 ji28 t405 t415 _ ?side1 ?side2 ?side3 ?side4 A26.out).mono ?_
                 (case side1 => exact cP (Kd.Q_reads' HO_407000.out).2.2)
                 (case side2 => exact (Kd.Q_reads' HO_407000.out).2.1)
                 (case side3 => exact cP (Kd.R_reads' HO_407001.out).2.2)
                 (case side4 => exact (Kd.R_reads' HO_407001.out).2.1)
                 rintro e w43 ⟨rfl, hb⟩
                 have HS2_ := (hb.cell (World.block_lt_of_cell? _ _ (hHeld.2.2.1))).trans (hHeld.2.2.1)
                 have HS3_ := (hb.cell (World.block_lt_of_cell? _ _ (hHeld.2.2.2.1))).trans (hHeld.2.2.2.1)
                 have HS4_ := (hb.cell (World.block_lt_of_cell? _ _ (hHeld.2.2.2.2))).trans (hHeld.2.2.2.2)
                 refine ⟨_, rfl, ?_⟩
                 have n0_ := Aside0.mk (Kd.Q_below (by (with_reducible repeat (first | apply Kd.Q_alloc | apply Kd.Q_drewN | apply Kd.Q_drew)); exact HO_407000.out) hb)
                 have n1_ := rB HO_407001 hb
                 have n2_ := rB HO411 hb
                 have n3_ := kB BK406 hb
                 have n4_ := bS HB hb
                 clear HO_407000
                 clear HO_407001
                 clear HO411
                 clear BK406
                 clear HB
                 have HO_407000 := n0_
                 have HO_407001 := n1_
                 have HO411 := n2_
                 have BK406 := n3_
                 have HB := n4_
                 clear n0_ n1_ n2_ n3_ n4_
                 (try clear hb)
                 (try clear hb2)
                 (try clear hk)
                 (try clear hi)
                 refine hK.out _ _ ⟨(blk_cell BK406.out 0).trans rfl, (blk_cell BK406.out 1).trans rfl, HS2_, HS3_, HS4_⟩ (fun hHeld => ?_)
                 clear hK K
                 refine norm_ (a' := ?_) ?_ ?_
                 rotate_left
                 ·show Act.put _ (some 74) _ = _
                  simp only [Act.put, List.setIfInBounds_toArray, List.set_cons_zero, List.set_cons_succ, i64_w, i32_w]
                  rfl
                 refine pure_ (i := 19) (N := some 75) (v := ?_) (a' := ?_) #[true, true, true, true, true, true, true, true, true, true, true, true, true, true, true, true, true, true, true, true, false, false, false, false, false, false, false, false, false, false, false, false, false, false, false, false, false, false, false, false, false, false, false, false, false, false, false, false, false, false, false, false] rfl rfl (any_of HT_.out (by kernel_rfl)) (fun _ _ _ h => h) (Or.inl ⟨by rfl, ?_⟩) ?_ ?_
                 rotate_left
                 ·intro w'
                  go_simp
                  with_reducible rfl
                 rotate_left
                 ·simp only [Act.put, List.setIfInBounds_toArray, List.set_cons_zero, List.set_cons_succ, i64_w, i32_w]
                  rfl
                 refine pure_ (i := 20) (N := some 76) (v := ?_) (a' := ?_) #[true, true, true, true, true, true, true, true, true, true, true, true, true, true, true, true, true, true, true, true, true, false, false, false, false, false, false, false, false, false, false, false, false, false, false, false, false, false, false, false, false, false, false, false, false, false, false, false, false, false, false, false] rfl rfl (any_of HT_.out (by kernel_rfl)) (fun _ _ _ h => h) (Or.inl ⟨by rfl, ?_⟩) ?_ ?_
                 rotate_left
                 ·intro w'
                  go_simp
                  with_reducible rfl
                 rotate_left
                 ·simp only [Act.put, List.setIfInBounds_toArray, List.set_cons_zero, List.set_cons_succ, i64_w, i32_w]
                  rfl
                 refine pure_ (i := 21) (N := some 77) (v := ?_) (a' := ?_) #[true, true, true, true, true, true, true, true, true, true, true, true, true, true, true, true, true, true, true, true, true, true, false, false, false, false, false, false, false, false, false, false, false, false, false, false, false, false, false, false, false, false, false, false, false, false, false, false, false, false, false, false] rfl rfl (any_of HT_.out (by kernel_rfl)) (fun _ _ _ h => h) (Or.inl ⟨by rfl, ?_⟩) ?_ ?_
                 rotate_left
                 ·intro w'
                  go_simp
                  with_reducible rfl
                 rotate_left
                 ·simp only [Act.put, List.setIfInBounds_toArray, List.set_cons_zero, List.set_cons_succ, i64_w, i32_w]
                  rfl
                 refine pure_ (i := 22) (N := some 78) (v := ?_) (a' := ?_) #[true, true, true, true, true, true, true, true, true, true, true, true, true, true, true, true, true, true, true, true, true, true, true, false, false, false, false, false, false, false, false, false, false, false, false, false, false, false, false, false, false, false, false, false, false, false, false, false, false, false, false, false] rfl rfl (any_of HT_.out (by kernel_rfl)) (fun _ _ _ h => h) (Or.inl ⟨by rfl, ?_⟩) ?_ ?_
                 rotate_left
                 ·intro w'
                  go_simp
                  with_reducible rfl
                 rotate_left
                 ·simp only [Act.put, List.setIfInBounds_toArray, List.set_cons_zero, List.set_cons_succ, i64_w, i32_w]
                  rfl
                 refine pure_ (i := 24) (N := some 80) (v := ?_) (a' := ?_) #[true, true, true, true, true, true, true, true, true, true, true, true, true, true, true, true, true, true, true, true, true, true, true, false, true, false, false, false, false, false, false, false, false, false, false, false, false, false, false, false, false, false, false, false, false, false, false, false, false, false, false, false] rfl rfl (any_of HT_.out (by kernel_rfl)) (fun _ _ _ h => h) (Or.inl ⟨by rfl, ?_⟩) ?_ ?_
                 rotate_left
                 ·intro w'
                  go_simp
                  with_reducible rfl
                 rotate_left
                 ·simp only [Act.put, List.setIfInBounds_toArray, List.set_cons_zero, List.set_cons_succ, i64_w, i32_w]
                  rfl
                 refine pure_ (i := 25) (N := some 81) (v := ?_) (a' := ?_) #[true, true, true, true, true, true, true, true, true, true, true, true, true, true, true, true, true, true, true, true, true, true, true, false, true, true, false, false, false, false, false, false, false, false, false, false, false, false, false, false, false, false, false, false, false, false, false, false, false, false, false, false] rfl rfl (any_of HT_.out (by kernel_rfl)) (fun _ _ _ h => h) (Or.inl ⟨by rfl, ?_⟩) ?_ ?_
                 rotate_left
                 ·intro w'
                  go_simp
                  with_reducible rfl
                 rotate_left
                 ·simp only [Act.put, List.setIfInBounds_toArray, List.set_cons_zero, List.set_cons_succ, i64_w, i32_w]
                  rfl
                 refine pure_ (i := 27) (N := some 83) (v := ?_) (a' := ?_) #[true, true, true, true, true, true, true, true, true, true, true, true, true, true, true, true, true, true, true, true, true, true, true, false, true, true, false, true, false, false, false, false, false, false, false, false, false, false, false, false, false, false, false, false, false, false, false, false, false, false, false, false] rfl rfl (any_of HT_.out (by kernel_rfl)) (fun _ _ _ h => h) (Or.inl ⟨by rfl, ?_⟩) ?_ ?_
                 rotate_left
                 ·intro w'
                  go_simp
                  with_reducible rfl
                 rotate_left
                 ·simp only [Act.put, List.setIfInBounds_toArray, List.set_cons_zero, List.set_cons_succ, i64_w, i32_w]
                  rfl
                 refine take_ (i := 23) (N := some 79) (v := ?_) (a' := ?_) #[true, true, true, true, true, true, true, true, true, true, true, true, true, true, true, true, true, true, true, true, true, true, true, true, true, true, false, true, false, false, false, false, false, false, false, false, false, false, false, false, false, false, false, false, false, false, false, false, false, false, false, false] rfl rfl (take_ofW HT_.out HW_.out (by kernel_rfl)) (fun _ _ _ h => h) (Or.inl ⟨by rfl, ?_⟩) hHeld ?_ ?_
                 rotate_left
                 ·rintro w' ⟨s0, s1, s2, s3, s4⟩
                  go_simp
                  with_reducible rfl
                 rotate_left
                 ·simp only [Act.put, List.setIfInBounds_toArray, List.set_cons_zero, List.set_cons_succ, i64_w, i32_w]
                  rfl
                 refine take_ (i := 26) (N := some 82) (v := ?_) (a' := ?_) #[true, true, true, true, true, true, true, true, true, true, true, true, true, true, true, true, true, true, true, true, true, true, true, true, true, true, true, true, false, false, false, false, false, false, false, false, false, false, false, false, false, false, false, false, false, false, false, false, false, false, false, false] rfl rfl (take_ofW HT_.out HW_.out (by kernel_rfl)) (fun _ _ _ h => h) (Or.inl ⟨by rfl, ?_⟩) hHeld ?_ ?_
                 rotate_left
                 ·rintro w' ⟨s0, s1, s2, s3, s4⟩
                  go_simp
                  with_reducible rfl
                 rotate_left
                 ·simp only [Act.put, List.setIfInBounds_toArray, List.set_cons_zero, List.set_cons_succ, i64_w, i32_w]
                  rfl
                 refine pure_ (i := 28) (N := some 84) (v := ?_) (a' := ?_) #[true, true, true, true, true, true, true, true, true, true, true, true, true, true, true, true, true, true, true, true, true, true, true, true, true, true, true, true, true, false, false, false, false, false, false, false, false, false, false, false, false, false, false, false, false, false, false, false, false, false, false, false] rfl rfl (any_of HT_.out (by kernel_rfl)) (fun _ _ _ h => h) (Or.inl ⟨by rfl, ?_⟩) ?_ ?_
                 rotate_left
                 ·intro w'
                  go_simp
                  with_reducible rfl
                 rotate_left
                 ·simp only [Act.put, List.setIfInBounds_toArray, List.set_cons_zero, List.set_cons_succ, i64_w, i32_w]
                  rfl
                 refine take_ (i := 29) (N := some 85) (v := ?_) (a' := ?_) #[true, true, true, true, true, true, true, true, true, true, true, true, true, true, true, true, true, true, true, true, true, true, true, true, true, true, true, true, true, true, false, false, false, false, false, false, false, false, false, false, false, false, false, false, false, false, false, false, false, false, false, false] rfl rfl (take_ofW HT_.out HW_.out (by kernel_rfl)) (fun _ _ _ h => h) (Or.inl ⟨by rfl, ?_⟩) hHeld ?_ ?_
                 rotate_left
                 ·rintro w' ⟨s0, s1, s2, s3, s4⟩
                  go_simp
                  with_reducible rfl
                 rotate_left
                 ·simp only [Act.put, List.setIfInBounds_toArray, List.set_cons_zero, List.set_cons_succ, i64_w, i32_w]
                  rfl
                 refine one_ (i := 30) (N := some 86) #[true, true, true, true, true, true, true, true, true, true, true, true, true, true, true, true, true, true, true, true, true, true, true, true, true, true, true, true, true, true, true, false, false, false, false, false, false, false, false, false, false, false, false, false, false, false, false, false, false, false, false, false] rfl rfl (one_of HT_.out (by kernel_rfl)) (by decide) (fun K hK => ?_)
                 refine goes_ Try.func17 (by kernel_rfl) rfl #[.agg #[.slice (some ad416) t398.length co12, .slice (some ad418) t401.length co14], .int .i64 ji28, .int .i64 (rd t398 (ji28))] (by rfl) rfl rfl (by (try simp only [List.map_toArray, List.map_cons, List.map_nil]); first | done | (simp only [hji28]; rfl) | rfl | (simp only [List.length_drop, List.length_take]; rfl)) ?_
                 with_reducible refine (impl_MapFar.calls kj8 _ _ t398 _ _ t401 ji28 (rd t398 (ji28)) t417 _ ?side1 ?side2 ?side3 ?side4 A31.out).mono ?_
                 (case side1 => exact cP (Kd.Q_reads' HO_407000.out).2.2)
                 (case side2 => exact (Kd.Q_reads' HO_407000.out).2.1)
                 (case side3 => exact cP (Kd.R_reads' HO_407001.out).2.2)
                 (case side4 => exact (Kd.R_reads' HO_407001.out).2.1)
                 rintro e w44 ⟨rfl, hb⟩
                 have HS2_ := (hb.cell (World.block_lt_of_cell? _ _ (hHeld.2.2.1))).trans (hHeld.2.2.1)
                 have HS3_ := (hb.cell (World.block_lt_of_cell? _ _ (hHeld.2.2.2.1))).trans (hHeld.2.2.2.1)
                 have HS4_ := (hb.cell (World.block_lt_of_cell? _ _ (hHeld.2.2.2.2))).trans (hHeld.2.2.2.2)
                 refine ⟨_, rfl, ?_⟩
                 have n0_ := Aside0.mk (Kd.Q_below (by (with_reducible repeat (first | apply Kd.Q_alloc | apply Kd.Q_drewN | apply Kd.Q_drew)); exact HO_407000.out) hb)
                 have n1_ := rB HO_407001 hb
                 have n2_ := rB HO411 hb
                 have n3_ := kB BK406 hb
                 have n4_ := bS HB hb
                 clear HO_407000
                 clear HO_407001
                 clear HO411
                 clear BK406
                 clear HB
                 have HO_407000 := n0_
                 have HO_407001 := n1_
                 have HO411 := n2_
                 have BK406 := n3_
                 have HB := n4_
                 clear n0_ n1_ n2_ n3_ n4_
                 (try clear hb)
                 (try clear hb2)
                 (try clear hk)
                 (try clear hi)
                 refine hK.out _ _ ⟨(blk_cell BK406.out 0).trans rfl, (blk_cell BK406.out 1).trans rfl, HS2_, HS3_, HS4_⟩ (fun hHeld => ?_)
                 clear hK K
                 refine norm_ (a' := ?_) ?_ ?_
                 rotate_left
                 ·show Act.put _ (some 86) _ = _
                  simp only [Act.put, List.setIfInBounds_toArray, List.set_cons_zero, List.set_cons_succ, i64_w, i32_w]
                  rfl
                 refine pure_ (i := 31) (N := some 87) (v := ?_) (a' := ?_) #[true, true, true, true, true, true, true, true, true, true, true, true, true, true, true, true, true, true, true, true, true, true, true, true, true, true, true, true, true, true, true, true, false, false, false, false, false, false, false, false, false, false, false, false, false, false, false, false, false, false, false, false] rfl rfl (any_of HT_.out (by kernel_rfl)) (fun _ _ _ h => h) (Or.inl ⟨by rfl, ?_⟩) ?_ ?_
                 rotate_left
                 ·intro w'
                  go_simp
                  with_reducible rfl
                 rotate_left
                 ·simp only [Act.put, List.setIfInBounds_toArray, List.set_cons_zero, List.set_cons_succ, i64_w, i32_w]
                  rfl
                 refine pure_ (i := 32) (N := some 88) (v := ?_) (a' := ?_) #[true, true, true, true, true, true, true, true, true, true, true, true, true, true, true, true, true, true, true, true, true, true, true, true, true, true, true, true, true, true, true, true, true, false, false, false, false, false, false, false, false, false, false, false, false, false, false, false, false, false, false, false] rfl rfl (any_of HT_.out (by kernel_rfl)) (fun _ _ _ h => h) (Or.inl ⟨by rfl, ?_⟩) ?_ ?_
                 rotate_left
                 ·intro w'
                  go_simp
                  with_reducible rfl
                 rotate_left
                 ·simp only [Act.put, List.setIfInBounds_toArray, List.set_cons_zero, List.set_cons_succ, i64_w, i32_w]
                  rfl
                 refine pure_ (i := 33) (N := some 89) (v := ?_) (a' := ?_) #[true, true, true, true, true, true, true, true, true, true, true, true, true, true, true, true, true, true, true, true, true, true, true, true, true, true, true, true, true, true, true, true, true, true, false, false, false, false, false, false, false, false, false, false, false, false, false, false, false, false, false, false] rfl rfl (any_of HT_.out (by kernel_rfl)) (fun _ _ _ h => h) (Or.inl ⟨by rfl, ?_⟩) ?_ ?_
                 rotate_left
                 ·intro w'
                  go_simp
                  with_reducible rfl
                 rotate_left
                 ·simp only [Act.put, List.setIfInBounds_toArray, List.set_cons_zero, List.set_cons_succ, i64_w, i32_w]
                  rfl
                 refine pure_ (i := 35) (N := some 91) (v := ?_) (a' := ?_) #[true, true, true, true, true, true, true, true, true, true, true, true, true, true, true, true, true, true, true, true, true, true, true, true, true, true, true, true, true, true, true, true, true, true, false, true, false, false, false, false, false, false, false, false, false, false, false, false, false, false, false, false] rfl rfl (any_of HT_.out (by kernel_rfl)) (fun _ _ _ h => h) (Or.inl ⟨by rfl, ?_⟩) ?_ ?_
                 rotate_left
                 ·intro w'
                  go_simp
                  with_reducible rfl
                 rotate_left
                 ·simp only [Act.put, List.setIfInBounds_toArray, List.set_cons_zero, List.set_cons_succ, i64_w, i32_w]
                  rfl
                 refine pure_ (i := 36) (N := some 92) (v := ?_) (a' := ?_) #[true, true, true, true, true, true, true, true, true, true, true, true, true, true, true, true, true, true, true, true, true, true, true, true, true, true, true, true, true, true, true, true, true, true, false, true, true, false, false, false, false, false, false, false, false, false, false, false, false, false, false, false] rfl rfl (any_of HT_.out (by kernel_rfl)) (fun _ _ _ h => h) (Or.inl ⟨by rfl, ?_⟩) ?_ ?_
                 rotate_left
                 ·intro w'
                  go_simp
                  with_reducible rfl
                 rotate_left
                 ·simp only [Act.put, List.setIfInBounds_toArray, List.set_cons_zero, List.set_cons_succ, i64_w, i32_w]
                  rfl
                 refine pure_ (i := 38) (N := some 94) (v := ?_) (a' := ?_) #[true, true, true, true, true, true, true, true, true, true, true, true, true, true, true, true, true, true, true, true, true, true, true, true, true, true, true, true, true, true, true, true, true, true, false, true, true, false, true, false, false, false, false, false, false, false, false, false, false, false, false, false] rfl rfl (any_of HT_.out (by kernel_rfl)) (fun _ _ _ h => h) (Or.inl ⟨by rfl, ?_⟩) ?_ ?_
                 rotate_left
                 ·intro w'
                  go_simp
                  with_reducible rfl
                 rotate_left
                 ·simp only [Act.put, List.setIfInBounds_toArray, List.set_cons_zero, List.set_cons_succ, i64_w, i32_w]
                  rfl
                 refine take_ (i := 34) (N := some 90) (v := ?_) (a' := ?_) #[true, true, true, true, true, true, true, true, true, true, true, true, true, true, true, true, true, true, true, true, true, true, true, true, true, true, true, true, true, true, true, true, true, true, true, true, true, false, true, false, false, false, false, false, false, false, false, false, false, false, false, false] rfl rfl (take_ofW HT_.out HW_.out (by kernel_rfl)) (fun _ _ _ h => h) (Or.inl ⟨by rfl, ?_⟩) hHeld ?_ ?_
                 rotate_left
                 ·rintro w' ⟨s0, s1, s2, s3, s4⟩
                  go_simp
                  with_reducible rfl
                 rotate_left
                 ·simp only [Act.put, List.setIfInBounds_toArray, List.set_cons_zero, List.set_cons_succ, i64_w, i32_w]
                  rfl
                 refine take_ (i := 37) (N := some 93) (v := ?_) (a' := ?_) #[true, true, true, true, true, true, true, true, true, true, true, true, true, true, true, true, true, true, true, true, true, true, true, true, true, true, true, true, true, true, true, true, true, true, true, true, true, true, true, false, false, false, false, false, false, false, false, false, false, false, false, false] rfl rfl (take_ofW HT_.out HW_.out (by kernel_rfl)) (fun _ _ _ h => h) (Or.inl ⟨by rfl, ?_⟩) hHeld ?_ ?_
                 rotate_left
                 ·rintro w' ⟨s0, s1, s2, s3, s4⟩
                  go_simp
                  with_reducible rfl
                 rotate_left
                 ·simp only [Act.put, List.setIfInBounds_toArray, List.set_cons_zero, List.set_cons_succ, i64_w, i32_w]
                  rfl
                 refine pure_ (i := 39) (N := some 95) (v := ?_) (a' := ?_) #[true, true, true, true, true, true, true, true, true, true, true, true, true, true, true, true, true, true, true, true, true, true, true, true, true, true, true, true, true, true, true, true, true, true, true, true, true, true, true, true, false, false, false, false, false, false, false, false, false, false, false, false] rfl rfl (any_of HT_.out (by kernel_rfl)) (fun _ _ _ h => h) (Or.inl ⟨by rfl, ?_⟩) ?_ ?_
                 rotate_left
                 ·intro w'
                  go_simp
                  with_reducible rfl
                 rotate_left
                 ·simp only [Act.put, List.setIfInBounds_toArray, List.set_cons_zero, List.set_cons_succ, i64_w, i32_w]
                  rfl
                 refine take_ (i := 40) (N := some 96) (v := ?_) (a' := ?_) #[true, true, true, true, true, true, true, true, true, true, true, true, true, true, true, true, true, true, true, true, true, true, true, true, true, true, true, true, true, true, true, true, true, true, true, true, true, true, true, true, true, false, false, false, false, false, false, false, false, false, false, false] rfl rfl (take_ofW HT_.out HW_.out (by kernel_rfl)) (fun _ _ _ h => h) (Or.inl ⟨by rfl, ?_⟩) hHeld ?_ ?_
                 rotate_left
                 ·rintro w' ⟨s0, s1, s2, s3, s4⟩
                  go_simp
                  with_reducible rfl
                 rotate_left
                 ·simp only [Act.put, List.setIfInBounds_toArray, List.set_cons_zero, List.set_cons_succ, i64_w, i32_w]
                  rfl
                 refine one_ (i := 41) (N := some 97) #[true, true, true, true, true, true, true, true, true, true, true, true, true, true, true, true, true, true, true, true, true, true, true, true, true, true, true, true, true, true, true, true, true, true, true, true, true, true, true, true, true, true, false, false, false, false, false, false, false, false, false, false] rfl rfl (one_of HT_.out (by kernel_rfl)) (by decide) (fun K hK => ?_)
                 refine goes_ Try.func17 (by kernel_rfl) rfl #[.agg #[.slice (some ad416) t398.length co12, .slice (some ad418) t401.length co14], .int .i64 ji28, .int .i64 (rd t401 (ji28))] (by rfl) rfl rfl (by (try simp only [List.map_toArray, List.map_cons, List.map_nil]); first | done | (simp only [hji28]; rfl) | rfl | (simp only [List.length_drop, List.length_take]; rfl)) ?_
                 with_reducible refine (impl_MapFar.calls kj8 _ _ t398 _ _ t401 ji28 (rd t401 (ji28)) t419 _ ?side1 ?side2 ?side3 ?side4 A34.out).mono ?_
                 (case side1 => exact cP (Kd.Q_reads' HO_407000.out).2.2)
                 (case side2 => exact (Kd.Q_reads' HO_407000.out).2.1)
                 (case side3 => exact cP (Kd.R_reads' HO_407001.out).2.2)
                 (case side4 => exact (Kd.R_reads' HO_407001.out).2.1)
                 rintro e w45 ⟨rfl, hb⟩
                 have HS2_ := (hb.cell (World.block_lt_of_cell? _ _ (hHeld.2.2.1))).trans (hHeld.2.2.1)
                 have HS3_ := (hb.cell (World.block_lt_of_cell? _ _ (hHeld.2.2.2.1))).trans (hHeld.2.2.2.1)
                 have HS4_ := (hb.cell (World.block_lt_of_cell? _ _ (hHeld.2.2.2.2))).trans (hHeld.2.2.2.2)
                 refine ⟨_, rfl, ?_⟩
                 have n0_ := Aside0.mk (Kd.Q_below (by (with_reducible repeat (first | apply Kd.Q_alloc | apply Kd.Q_drewN | apply Kd.Q_drew)); exact HO_407000.out) hb)
                 have n1_ := rB HO_407001 hb
                 have n2_ := rB HO411 hb
                 have n3_ := kB BK406 hb
                 have n4_ := bS HB hb
                 clear HO_407000
                 clear HO_407001
                 clear HO411
                 clear BK406
                 clear HB
                 have HO_407000 := n0_
                 have HO_407001 := n1_
                 have HO411 := n2_
                 have BK406 := n3_
                 have HB := n4_
                 clear n0_ n1_ n2_ n3_ n4_
                 (try clear hb)
                 (try clear hb2)
                 (try clear hk)
                 (try clear hi)
                 obtain ⟨Ao46, co46, eo46⟩ := Kd.R_slice HO411.out
                 (first | subst eo46 | (injection eo46 with f1_ f2_ f3_; have f4_ := f1_.symm; have f5_ := f3_.symm; clear f1_ f2_ f3_; subst f4_; subst f5_))
                 refine hK.out _ _ ⟨(blk_cell BK406.out 0).trans rfl, (blk_cell BK406.out 1).trans rfl, HS2_, HS3_, HS4_⟩ (fun hHeld => ?_)
                 clear hK K
                 refine norm_ (a' := ?_) ?_ ?_
                 rotate_left
                 ·show Act.put _ (some 97) _ = _
                  simp only [Act.put, List.setIfInBounds_toArray, List.set_cons_zero, List.set_cons_succ, i64_w, i32_w]
                  rfl
                 refine pure_ (i := 42) (N := some 98) (v := ?_) (a' := ?_) #[true, true, true, true, true, true, true, true, true, true, true, true, true, true, true, true, true, true, true, true, true, true, true, true, true, true, true, true, true, true, true, true, true, true, true, true, true, true, true, true, true, true, true, false, false, false, false, false, false, false, false, false] rfl rfl (any_of HT_.out (by kernel_rfl)) (fun _ _ _ h => h) (Or.inl ⟨by rfl, ?_⟩) ?_ ?_
                 rotate_left
                 ·intro w'
                  go_simp
                  with_reducible rfl
                 rotate_left
                 ·simp only [Act.put, List.setIfInBounds_toArray, List.set_cons_zero, List.set_cons_succ, i64_w, i32_w]
                  rfl
                 refine pure_ (i := 43) (N := some 99) (v := ?_) (a' := ?_) #[true, true, true, true, true, true, true, true, true, true, true, true, true, true, true, true, true, true, true, true, true, true, true, true, true, true, true, true, true, true, true, true, true, true, true, true, true, true, true, true, true, true, true, true, false, false, false, false, false, false, false, false] rfl rfl (any_of HT_.out (by kernel_rfl)) (fun _ _ _ h => h) (Or.inl ⟨by rfl, ?_⟩) ?_ ?_
                 rotate_left
                 ·intro w'
                  go_simp
                  with_reducible rfl
                 rotate_left
                 ·simp only [Act.put, List.setIfInBounds_toArray, List.set_cons_zero, List.set_cons_succ, i64_w, i32_w]
                  rfl
                 refine pure_ (i := 44) (N := some 100) (v := ?_) (a' := ?_) #[true, true, true, true, true, true, true, true, true, true, true, true, true, true, true, true, true, true, true, true, true, true, true, true, true, true, true, true, true, true, true, true, true, true, true, true, true, true, true, true, true, true, true, true, true, false, false, false, false, false, false, false] rfl rfl (any_of HT_.out (by kernel_rfl)) (fun _ _ _ h => h) (Or.inl ⟨by rfl, ?_⟩) ?_ ?_
                 rotate_left
                 ·intro w'
                  go_simp
                  with_reducible rfl
                 rotate_left
                 ·simp only [Act.put, List.setIfInBounds_toArray, List.set_cons_zero, List.set_cons_succ, i64_w, i32_w]
                  rfl
                 refine pure_ (i := 45) (N := some 101) (v := ?_) (a' := ?_) #[true, true, true, true, true, true, true, true, true, true, true, true, true, true, true, true, true, true, true, true, true, true, true, true, true, true, true, true, true, true, true, true, true, true, true, true, true, true, true, true, true, true, true, true, true, true, false, false, false, false, false, false] rfl rfl (any_of HT_.out (by kernel_rfl)) (fun _ _ _ h => h) (Or.inl ⟨by rfl, ?_⟩) ?_ ?_
                 rotate_left
                 ·intro w'
                  go_simp
                  with_reducible rfl
                 rotate_left
                 ·simp only [Act.put, List.setIfInBounds_toArray, List.set_cons_zero, List.set_cons_succ, i64_w, i32_w]
                  rfl
                 refine pure_ (i := 46) (N := some 102) (v := ?_) (a' := ?_) #[true, true, true, true, true, true, true, true, true, true, true, true, true, true, true, true, true, true, true, true, true, true, true, true, true, true, true, true, true, true, true, true, true, true, true, true, true, true, true, true, true, true, true, true, true, true, true, false, false, false, false, false] rfl rfl (any_of HT_.out (by kernel_rfl)) (fun _ _ _ h => h) (Or.inl ⟨by rfl, ?_⟩) ?_ ?_
                 rotate_left
                 ·intro w'
                  go_simp
                  with_reducible rfl
                 rotate_left
                 ·simp only [Act.put, List.setIfInBounds_toArray, List.set_cons_zero, List.set_cons_succ, i64_w, i32_w]
                  rfl
                 refine pure_ (i := 47) (N := some 103) (v := ?_) (a' := ?_) #[true, true, true, true, true, true, true, true, true, true, true, true, true, true, true, true, true, true, true, true, true, true, true, true, true, true, true, true, true, true, true, true, true, true, true, true, true, true, true, true, true, true, true, true, true, true, true, true, false, false, false, false] rfl rfl (any_of HT_.out (by kernel_rfl)) (fun _ _ _ h => h) (Or.inl ⟨by rfl, ?_⟩) ?_ ?_
                 rotate_left
                 ·intro w'
                  go_simp
                  with_reducible rfl
                 rotate_left
                 ·simp only [Act.put, List.setIfInBounds_toArray, List.set_cons_zero, List.set_cons_succ, i64_w, i32_w]
                  rfl
                 refine take_ (i := 48) (N := some 104) (v := ?_) (a' := ?_) #[true, true, true, true, true, true, true, true, true, true, true, true, true, true, true, true, true, true, true, true, true, true, true, true, true, true, true, true, true, true, true, true, true, true, true, true, true, true, true, true, true, true, true, true, true, true, true, true, true, false, false, false] rfl rfl (take_ofW HT_.out HW_.out (by kernel_rfl)) (fun _ _ _ h => h) (Or.inl ⟨by rfl, ?_⟩) hHeld ?_ ?_
                 rotate_left
                 ·rintro w' ⟨s0, s1, s2, s3, s4⟩
                  go_simp
                  with_reducible rfl
                 rotate_left
                 ·simp only [Act.put, List.setIfInBounds_toArray, List.set_cons_zero, List.set_cons_succ, i64_w, i32_w]
                  rfl
                 refine pure_ (i := 49) (N := some 105) (v := ?_) (a' := ?_) #[true, true, true, true, true, true, true, true, true, true, true, true, true, true, true, true, true, true, true, true, true, true, true, true, true, true, true, true, true, true, true, true, true, true, true, true, true, true, true, true, true, true, true, true, true, true, true, true, true, true, false, false] rfl rfl (any_of HT_.out (by kernel_rfl)) (fun _ _ _ h => h) (Or.inl ⟨by rfl, ?_⟩) ?_ ?_
                 rotate_left
                 ·intro w'
                  go_simp
                  with_reducible rfl
                 rotate_left
                 ·simp only [Act.put, List.setIfInBounds_toArray, List.set_cons_zero, List.set_cons_succ, i64_w, i32_w]
                  rfl
                 refine pure_ (i := 50) (N := some 106) (v := ?_) (a' := ?_) #[true, true, true, true, true, true, true, true, true, true, true, true, true, true, true, true, true, true, true, true, true, true, true, true, true, true, true, true, true, true, true, true, true, true, true, true, true, true, true, true, true, true, true, true, true, true, true, true, true, true, true, false] rfl rfl (any_of HT_.out (by kernel_rfl)) (fun _ _ _ h => h) (Or.inl ⟨by rfl, ?_⟩) ?_ ?_
                 rotate_left
                 ·intro w'
                  go_simp
                  with_reducible rfl
                 rotate_left
                 ·simp only [Act.put, List.setIfInBounds_toArray, List.set_cons_zero, List.set_cons_succ, i64_w, i32_w]
                  rfl
                 refine pure_ (i := 51) (N := some 4) (v := ?_) (a' := ?_) #[true, true, true, true, true, true, true, true, true, true, true, true, true, true, true, true, true, true, true, true, true, true, true, true, true, true, true, true, true, true, true, true, true, true, true, true, true, true, true, true, true, true, true, true, true, true, true, true, true, true, true, true] rfl rfl (any_of HT_.out (by kernel_rfl)) (fun _ _ _ h => h) (Or.inl ⟨by rfl, ?_⟩) ?_ ?_
                 rotate_left
                 ·intro w'
                  go_simp
                  with_reducible rfl
                 rotate_left
                 ·simp only [Act.put, List.setIfInBounds_toArray, List.set_cons_zero, List.set_cons_succ, i64_w, i32_w]
                  rfl
                 refine done_ (done_of HT_.out (by kernel_rfl)) ?_
                 try go_wp2
                 go_ret
                 exact ⟨by first | rfl | (simp [errW_none, errW_some] <;> rfl) | (simp only [← hji28]; first | rfl | (simp [errW_none, errW_some] <;> rfl)) | (simp [*, errW_none, errW_some] <;> rfl), bP HB⟩
                ·rw [if_neg c36] at H
                 exact absurd H (by simp)
               ·rw [if_neg c35] at H
                have c35b0 : decide (t419 ≤ 1) = false := decide_eq_false c35
                clear c35
                exact absurd ((Option.some.inj H).trans hr_.out) (by decide)
              ·rw [if_neg c33] at H
               exact absurd H (by simp)
             ·rw [if_neg c32] at H
              have c32b0 : (t417 == 0) = false := beq_eq_false_iff_ne.mpr c32
              have c32b1 : (t417 != 0) = true := bne_iff_ne.mpr c32
              exact absurd ((Option.some.inj H).trans hr_.out) (by decide)
            ·rw [if_neg c30] at H
             exact absurd H (by simp)
           ·rw [if_neg c29] at H
            exact absurd H (by simp)
          ·rw [if_neg c27] at H
           have c27b0 : decide (t407 ≤ (wrap64 (t414 + t415))) = false := decide_eq_false c27
           clear c27
           exact absurd ((Option.some.inj H).trans hr_.out) (by decide)
         ·rw [if_neg c24] at H
          have c24b0 : (t413 == t407) = false := beq_eq_false_iff_ne.mpr c24
          have c24b1 : (t413 != t407) = true := bne_iff_ne.mpr c24
          exact absurd ((Option.some.inj H).trans hr_.out) (by decide)
        ·replace c22 := Bool.eq_false_iff.mpr c22
         subst c22
         have H1 : (some false) = some r := by rw [if_neg (show ¬ (false = true) by decide)] at H; exact H
         clear H
         have H := H1
         clear H1
         exact absurd ((Option.some.inj H).trans hr_.out) (by decide)

/-- THE ONE PURE STATEMENT of laws_FnFar: yours. -/
def laws_FnFar.Pure : Prop := ∀ (l0 : List Int) (l1 : List Int), l0.length ≤ maxLen → l0.length * 1 ≤ 140737488351232 → (∀ x ∈ l0, (Lit.int .u8 x).wf = true) → l1.length ≤ maxLen → l1.length * 1 ≤ 140737488351232 → (∀ x ∈ l1, (Lit.int .u8 x).wf = true) → ∃ k, laws_FnFar.f k l0 l1 = some true
theorem laws_FnFar.walk (P : laws_FnFar.Pure) (a0 : Option Addr) (len0 cap0 : Nat) (z0 : List Int) (a1 : Option Addr) (len1 cap1 : Nat) (z1 : List Int) (w : World) (w0 : (a0 = none ∧ len0 = 0 ∧ cap0 = 0 ∧ z0 = []) ∨ ∃ x, a0 = some x ∧ len0 ≤ cap0 ∧ cap0 ≤ maxLen ∧ z0.length = cap0 ∧ (∀ i, i < z0.length → w.cell? (x.add i) = some (.int .u8 (z0.getD i 0))) ∧ ∀ n ∈ z0, (Lit.int .u8 n).wf = true) (y0 : len0 * 1 ≤ 140737488351232) (w1 : (a1 = none ∧ len1 = 0 ∧ cap1 = 0 ∧ z1 = []) ∨ ∃ x, a1 = some x ∧ len1 ≤ cap1 ∧ cap1 ≤ maxLen ∧ z1.length = cap1 ∧ (∀ i, i < z1.length → w.cell? (x.add i) = some (.int .u8 (z1.getD i 0))) ∧ ∀ n ∈ z1, (Lit.int .u8 n).wf = true) (y1 : len1 * 1 ≤ 140737488351232) :
 Calls Try.prog 4 #[.slice a0 len0 cap0, .slice a1 len1 cap1] w fun e w' => e = .returned (.bool true) ∧ Below w.heap.size w w' := by
 obtain ⟨l0, rfl, hr0, hm0, hw0, hc0⟩ := ReadsInt.ofRowC w0
 obtain ⟨l1, rfl, hr1, hm1, hw1, hc1⟩ := ReadsInt.ofRowC w1
 obtain ⟨k, h⟩ := P l0 l1 hm0 y0 hw0 hm1 y1 hw1
 refine (laws_FnFar.calls k _ _ l0 _ _ l1 true w (Kd.C_of_reads (d := (0 : Int)) (h1 := fun _ => rfl) hr0) hc0 (Kd.C_of_reads (d := (0 : Int)) (h1 := fun _ => rfl) hr1) hc1 ⟨rfl⟩ h).mono ?_
 rintro e w' ⟨rfl, hd⟩
 exact ⟨rfl, hd⟩

end Go.Proofs.Ytihabnfccgjfbaa.F
