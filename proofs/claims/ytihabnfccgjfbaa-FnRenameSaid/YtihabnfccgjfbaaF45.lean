/- Contracts: what these Go functions return. -/
import Derived.Test.YtihabnfccgjfbaaF0
import Derived.Test.YtihabnfccgjfbaaF11
import Derived.Test.YtihabnfccgjfbaaF43
import Derived.Test.YtihabnfccgjfbaaF44
namespace Go.Proofs.Ytihabnfccgjfbaa.F
open Go.RowKit Go.Proofs.YtihabnfccgjfbaaW.PrintWords Go.Proofs.YtihabnfccgjfbaaW.PrintLast Go.Proofs.YtihabnfccgjfbaaW.PrintMore
attribute [local go_sem] max2_int min2_int max_two min_two max_three min_three max_four min_four
set_option linter.unusedVariables false
set_option linter.unusedSimpArgs false

/-! ### impl_MapSame: function 33 -/
def impl_MapSame.j0 : Nat → Bool → List Int → List Int → List Int → List Int → Option (Bool)
 | 0, _, _, _, _, _ => none
 | k + 1, x21, x835000, x835001, x836000, x836001 => if x21 = true then (some false) else ((impl_leastForm.f k x835000 x835001).bind fun bt838 => ((impl_leastForm.f k x836000 x836001).bind fun bt844 => ((impl_compareMaps.f k bt838.1 bt838.2 bt844.1 bt844.2).bind fun t850 => (some (t850 == 0)))))
def impl_MapSame.f (k : Nat) (l0_0 : List Int) (l0_1 : List Int) (l1_0 : List Int) (l1_1 : List Int) : Option (Bool) := (impl_MapValid.f k l0_0 l0_1).bind fun t836 => (if t836 = true then ((impl_MapValid.f k l1_0 l1_1).bind fun t837 => (if t837 = true then (impl_MapSame.j0 k ((l0_0.length : Int) != (l1_0.length : Int)) l0_0 l0_1 l1_0 l1_1) else (impl_MapSame.j0 k true l0_0 l0_1 l1_0 l1_1))) else (impl_MapSame.j0 k true l0_0 l0_1 l1_0 l1_1))
set_option maxHeartbeats 8000000 in
set_option maxRecDepth 100000 in
theorem impl_MapSame.calls (k : Nat) (A0_0 : Option Addr) (c0_0 : Nat) (l0_0 : List Int) (A0_1 : Option Addr) (c0_1 : Nat) (l0_1 : List Int) (A1_0 : Option Addr) (c1_0 : Nat) (l1_0 : List Int) (A1_1 : Option Addr) (c1_1 : Nat) (l1_1 : List Int) (r : Bool) (w : World) (hr0_0 : Kd.C (Kd.int .i64) w A0_0 l0_0.length l0_0) (hc0_0 : l0_0.length ≤ c0_0) (hr0_1 : Kd.C (Kd.int .i64) w A0_1 l0_1.length l0_1) (hc0_1 : l0_1.length ≤ c0_1) (hr1_0 : Kd.C (Kd.int .i64) w A1_0 l1_0.length l1_0) (hc1_0 : l1_0.length ≤ c1_0) (hr1_1 : Kd.C (Kd.int .i64) w A1_1 l1_1.length l1_1) (hc1_1 : l1_1.length ≤ c1_1) (h : impl_MapSame.f k l0_0 l0_1 l1_0 l1_1 = some r) :
 Calls Try.prog 33 #[.agg #[.slice A0_0 l0_0.length c0_0, .slice A0_1 l0_1.length c0_1], .agg #[.slice A1_0 l1_0.length c1_0, .slice A1_1 l1_1.length c1_1]] w fun e w' => e = .returned (.bool r) ∧ Below w.heap.size w w' := by
 have hu25 := Try.underlying25
 have HR0_0 := Aside0.mk hr0_0
 have HC0_0 := Aside0.mk hc0_0
 clear hr0_0 hc0_0
 have HR0_1 := Aside0.mk hr0_1
 have HC0_1 := Aside0.mk hc0_1
 clear hr0_1 hc0_1
 have HR1_0 := Aside0.mk hr1_0
 have HC1_0 := Aside0.mk hc1_0
 clear hr1_0 hc1_0
 have HR1_1 := Aside0.mk hr1_1
 have HC1_1 := Aside0.mk hc1_1
 clear hr1_1 hc1_1
 have HB := Aside0.mk (Below.refl w.heap.size w)
 have H : ((impl_MapValid.f k l0_0 l0_1).bind fun t836 => (if t836 = true then ((impl_MapValid.f k l1_0 l1_1).bind fun t837 => (if t837 = true then (impl_MapSame.j0 k ((l0_0.length : Int) != (l1_0.length : Int)) l0_0 l0_1 l1_0 l1_1) else (impl_MapSame.j0 k true l0_0 l0_1 l1_0 l1_1))) else (impl_MapSame.j0 k true l0_0 l0_1 l1_0 l1_1))) = some r := h
 clear h
 have HC3 := Aside0.mk H
 clear H
 go_enter Try.func33, Try.ntmps33
 go_upto_region 1 with (first | ((with_reducible refine gate_dst (N := 2) rfl ?_); (try (refine gate_guard (by rfl) ?_; dsimp only)); refine bE 2 #[.slice A0_0 l0_0.length c0_0, .slice A0_1 l0_1.length c0_1] 25 ?_; intro gb834 hg w4 hbox hb; have BK834 := Aside0.mk (hbox); have GW834 := gS HB hg; have GE834 := gS HB hg; replace HB := bS HB hb; clear hb hbox hg) | ((with_reducible refine gate_dst (N := 3) rfl ?_); (try (refine gate_guard (by rfl) ?_; dsimp only)); refine bE 3 #[.slice A1_0 l1_0.length c1_0, .slice A1_1 l1_1.length c1_1] 25 ?_; intro gb835 hg w5 hbox hb; have BK835 := Aside0.mk (hbox); have GW835 := gS HB hg; have GE835 := gS HB hg; replace HB := bS HB hb; have NB834_835 := nL BK834 hg; have NB835_834 := nG BK834 hg; replace BK834 := kB BK834 hb; clear hb hbox hg))
 (try simp only [Act.put, List.setIfInBounds_toArray, List.set_cons_zero, List.set_cons_succ])
 go_cut [21] (fun v21 wc => ∃ (kq : Nat) (x21_2 : Bool), v21 = .bool x21_2 ∧ Aside0 (impl_MapSame.j0 kq x21_2 l0_0 l0_1 l1_0 l1_1 = some r) ∧ Aside0 (kq ≤ k) ∧ Aside0 (wc.heap[gb834]? = some (.cells #[(.slice A0_0 l0_0.length c0_0), (.slice A0_1 l0_1.length c0_1)] 25 (0, 0))) ∧ Aside0 (wc.heap[gb835]? = some (.cells #[(.slice A1_0 l1_0.length c1_0), (.slice A1_1 l1_1.length c1_1)] 25 (0, 0))) ∧ Aside0 (Below w.heap.size w wc))
 case first =>
  have H := HC3.out
  clear HC3
  replace H := Option.bind_eq_some_iff.mp H
  obtain ⟨t836, A60, H⟩ := H
  replace H : (if t836 = true then ((impl_MapValid.f k l1_0 l1_1).bind fun t837 => (if t837 = true then (impl_MapSame.j0 k ((l0_0.length : Int) != (l1_0.length : Int)) l0_0 l0_1 l1_0 l1_1) else (impl_MapSame.j0 k true l0_0 l0_1 l1_0 l1_1))) else (impl_MapSame.j0 k true l0_0 l0_1 l1_0 l1_1)) = some r := H
  have A6 := Aside0.mk A60
  clear A60
  by_cases c7 : t836 = true
  ·subst c7
   replace H : ((impl_MapValid.f k l1_0 l1_1).bind fun t837 => (if t837 = true then (impl_MapSame.j0 k ((l0_0.length : Int) != (l1_0.length : Int)) l0_0 l0_1 l1_0 l1_1) else (impl_MapSame.j0 k true l0_0 l0_1 l1_0 l1_1))) = some r := by rw [if_pos rfl] at H; exact H
   replace H := Option.bind_eq_some_iff.mp H
   obtain ⟨t837, A80, H⟩ := H
   replace H : (if t837 = true then (impl_MapSame.j0 k ((l0_0.length : Int) != (l1_0.length : Int)) l0_0 l0_1 l1_0 l1_1) else (impl_MapSame.j0 k true l0_0 l0_1 l1_0 l1_1)) = some r := H
   have A8 := Aside0.mk A80
   clear A80
   by_cases c9 : t837 = true
   ·subst c9
    replace H : (impl_MapSame.j0 k ((l0_0.length : Int) != (l1_0.length : Int)) l0_0 l0_1 l1_0 l1_1) = some r := by rw [if_pos rfl] at H; exact H
    have H' := Aside0.mk H
    clear H
    have hnb10 := NB834_835.out
    have hnc10 := NB835_834.out
    have hcz11_0 := zc0 BK834
    have hcz11_1 := zc1 BK834
    have hfz11_0 := blk_frozen BK834.out 0
    have hfz11_1 := blk_frozen BK834.out 1
    go_wp2_with (first | ((with_reducible refine gate_callee (f := 38) rfl ?_); refine gL (some 6) Try.func38 #[.agg #[.slice A0_0 l0_0.length c0_0, .slice A0_1 l0_1.length c0_1]] ?_; (with_reducible refine (impl_MapValid.calls k (fun k_ => k_ < w.heap.size) _ _ l0_0 (fun k_ => k_ < w.heap.size) _ _ l0_1 true _ ?side1 ?side2 A6.out).mono ?_); (case side1 => exact Kd.V_mk HC0_0.out (Kd.F_below (Kd.C_F (Kd.heap_int .i64) HR0_0.out) (bP HB))); (case side2 => exact Kd.V_mk HC0_1.out (Kd.F_below (Kd.C_F (Kd.heap_int .i64) HR0_1.out) (bP HB))); rintro e w12 ⟨rfl, hb⟩; refine ⟨_, rfl, ?_⟩; replace BK834 := kB BK834 hb; replace BK835 := kB BK835 hb; replace HB := bS HB hb; (try clear hb); (try clear hb2); (try clear hk); (try clear hi); have hcz13_0 := zc0 BK835; have hcz13_1 := zc1 BK835; have hfz13_0 := blk_frozen BK835.out 0; have hfz13_1 := blk_frozen BK835.out 1) | (go_at_call 38; (with_reducible refine (impl_MapValid.calls k (fun k_ => k_ < w.heap.size) _ _ l1_0 (fun k_ => k_ < w.heap.size) _ _ l1_1 true _ ?side1 ?side2 A8.out).mono ?_); (case side1 => exact Kd.V_mk HC1_0.out (Kd.F_below (Kd.C_F (Kd.heap_int .i64) HR1_0.out) (bP HB))); (case side2 => exact Kd.V_mk HC1_1.out (Kd.F_below (Kd.C_F (Kd.heap_int .i64) HR1_1.out) (bP HB))); rintro e w14 ⟨rfl, hb⟩; replace BK834 := kB BK834 hb; replace BK835 := kB BK835 hb; replace HB := bS HB hb; (try clear hb); (try clear hb2); (try clear hk); (try clear hi); have hcz15_0 := zc0 BK834; have hcz15_1 := zc1 BK834; have hfz15_0 := blk_frozen BK834.out 0; have hfz15_1 := blk_frozen BK834.out 1; have hcz16_0 := zc0 BK835; have hcz16_1 := zc1 BK835; have hfz16_0 := blk_frozen BK835.out 0; have hfz16_1 := blk_frozen BK835.out 1))
    go_meet
    case rel => exact ⟨_, (((l0_0.length : Int) != (l1_0.length : Int))), eS, H', ⟨by first | omega | exact Nat.le_refl _⟩, ⟨kP BK834⟩, ⟨kP BK835⟩, ⟨bP HB⟩⟩
   replace c9 := Bool.eq_false_iff.mpr c9
   subst c9
   replace H : (impl_MapSame.j0 k true l0_0 l0_1 l1_0 l1_1) = some r := by rw [if_neg (show ¬ (false = true) by decide)] at H; exact H
   have H' := Aside0.mk H
   clear H
   have hnb17 := NB834_835.out
   have hnc17 := NB835_834.out
   have hcz18_0 := zc0 BK834
   have hcz18_1 := zc1 BK834
   have hfz18_0 := blk_frozen BK834.out 0
   have hfz18_1 := blk_frozen BK834.out 1
   go_wp2_with (first | ((with_reducible refine gate_callee (f := 38) rfl ?_); refine gL (some 6) Try.func38 #[.agg #[.slice A0_0 l0_0.length c0_0, .slice A0_1 l0_1.length c0_1]] ?_; (with_reducible refine (impl_MapValid.calls k (fun k_ => k_ < w.heap.size) _ _ l0_0 (fun k_ => k_ < w.heap.size) _ _ l0_1 true _ ?side1 ?side2 A6.out).mono ?_); (case side1 => exact Kd.V_mk HC0_0.out (Kd.F_below (Kd.C_F (Kd.heap_int .i64) HR0_0.out) (bP HB))); (case side2 => exact Kd.V_mk HC0_1.out (Kd.F_below (Kd.C_F (Kd.heap_int .i64) HR0_1.out) (bP HB))); rintro e w19 ⟨rfl, hb⟩; refine ⟨_, rfl, ?_⟩; replace BK834 := kB BK834 hb; replace BK835 := kB BK835 hb; replace HB := bS HB hb; (try clear hb); (try clear hb2); (try clear hk); (try clear hi); have hcz20_0 := zc0 BK835; have hcz20_1 := zc1 BK835; have hfz20_0 := blk_frozen BK835.out 0; have hfz20_1 := blk_frozen BK835.out 1) | (go_at_call 38; (with_reducible refine (impl_MapValid.calls k (fun k_ => k_ < w.heap.size) _ _ l1_0 (fun k_ => k_ < w.heap.size) _ _ l1_1 false _ ?side1 ?side2 A8.out).mono ?_); (case side1 => exact Kd.V_mk HC1_0.out (Kd.F_below (Kd.C_F (Kd.heap_int .i64) HR1_0.out) (bP HB))); (case side2 => exact Kd.V_mk HC1_1.out (Kd.F_below (Kd.C_F (Kd.heap_int .i64) HR1_1.out) (bP HB))); rintro e w21 ⟨rfl, hb⟩; replace BK834 := kB BK834 hb; replace BK835 := kB BK835 hb; replace HB := bS HB hb; (try clear hb); (try clear hb2); (try clear hk); (try clear hi)))
   go_meet
   case rel => exact ⟨_, (true), eS, H', ⟨by first | omega | exact Nat.le_refl _⟩, ⟨kP BK834⟩, ⟨kP BK835⟩, ⟨bP HB⟩⟩
  replace c7 := Bool.eq_false_iff.mpr c7
  subst c7
  replace H : (impl_MapSame.j0 k true l0_0 l0_1 l1_0 l1_1) = some r := by rw [if_neg (show ¬ (false = true) by decide)] at H; exact H
  have H' := Aside0.mk H
  clear H
  have hnb22 := NB834_835.out
  have hnc22 := NB835_834.out
  have hcz23_0 := zc0 BK834
  have hcz23_1 := zc1 BK834
  have hfz23_0 := blk_frozen BK834.out 0
  have hfz23_1 := blk_frozen BK834.out 1
  go_wp2_with (first | ((with_reducible refine gate_callee (f := 38) rfl ?_); refine gL (some 6) Try.func38 #[.agg #[.slice A0_0 l0_0.length c0_0, .slice A0_1 l0_1.length c0_1]] ?_; (with_reducible refine (impl_MapValid.calls k (fun k_ => k_ < w.heap.size) _ _ l0_0 (fun k_ => k_ < w.heap.size) _ _ l0_1 false _ ?side1 ?side2 A6.out).mono ?_); (case side1 => exact Kd.V_mk HC0_0.out (Kd.F_below (Kd.C_F (Kd.heap_int .i64) HR0_0.out) (bP HB))); (case side2 => exact Kd.V_mk HC0_1.out (Kd.F_below (Kd.C_F (Kd.heap_int .i64) HR0_1.out) (bP HB))); rintro e w24 ⟨rfl, hb⟩; refine ⟨_, rfl, ?_⟩; replace BK834 := kB BK834 hb; replace BK835 := kB BK835 hb; replace HB := bS HB hb; (try clear hb); (try clear hb2); (try clear hk); (try clear hi)))
  go_meet
  case rel => exact ⟨_, (true), eS, H', ⟨by first | omega | exact Nat.le_refl _⟩, ⟨kP BK834⟩, ⟨kP BK835⟩, ⟨bP HB⟩⟩
 case rest =>
  clear HC3
  try clear c1
  try clear c2
  try clear p2
  try clear c3
  try clear c7
  try clear c9
  try clear c10
  try clear c17
  try clear c22
  try clear hcz11_0
  try clear hcz11_1
  try clear hcz13_0
  try clear hcz13_1
  try clear hcz15_0
  try clear hcz15_1
  try clear hcz16_0
  try clear hcz16_1
  try clear hcz18_0
  try clear hcz18_1
  try clear hcz20_0
  try clear hcz20_1
  try clear hcz23_0
  try clear hcz23_1
  try clear hfz11_0
  try clear hfz11_1
  try clear hfz13_0
  try clear hfz13_1
  try clear hfz15_0
  try clear hfz15_1
  try clear hfz16_0
  try clear hfz16_1
  try clear hfz18_0
  try clear hfz18_1
  try clear hfz20_0
  try clear hfz20_1
  try clear hfz23_0
  try clear hfz23_1
  obtain ⟨kq, x21_2, rfl, HA, HJ2, BK834, BK835, HB⟩ := hcut
  cases kq with
  | zero => exact absurd HA.out (by simp [impl_MapSame.j0])
  | succ kj2 =>
   have H := HA.out
   clear HA
   simp only [impl_MapSame.j0] at H
   by_cases c25 : x21_2 = true
   ·subst c25
    replace H : (some false) = some r := by rw [if_pos rfl] at H; exact H
    obtain rfl := Option.some.inj H
    go_wp2
    go_ret
    exact ⟨eR, bP HB⟩
   ·replace c25 := Bool.eq_false_iff.mpr c25
    subst c25
    replace H : ((impl_leastForm.f kj2 l0_0 l0_1).bind fun bt838 => ((impl_leastForm.f kj2 l1_0 l1_1).bind fun bt844 => ((impl_compareMaps.f kj2 bt838.1 bt838.2 bt844.1 bt844.2).bind fun t850 => (some (t850 == 0))))) = some r := by rw [if_neg (show ¬ (false = true) by decide)] at H; exact H
    replace H := Option.bind_eq_some_iff.mp H
    obtain ⟨⟨t838, t841⟩, A260, H⟩ := H
    replace H : ((impl_leastForm.f kj2 l1_0 l1_1).bind fun bt844 => ((impl_compareMaps.f kj2 t838 t841 bt844.1 bt844.2).bind fun t850 => (some (t850 == 0)))) = some r := H
    have A26 := Aside0.mk A260
    clear A260
    replace H := Option.bind_eq_some_iff.mp H
    obtain ⟨⟨t844, t847⟩, A270, H⟩ := H
    replace H : ((impl_compareMaps.f kj2 t838 t841 t844 t847).bind fun t850 => (some (t850 == 0))) = some r := H
    have A27 := Aside0.mk A270
    clear A270
    replace H := Option.bind_eq_some_iff.mp H
    obtain ⟨t850, A280, H⟩ := H
    replace H : (some (t850 == 0)) = some r := H
    have A28 := Aside0.mk A280
    clear A280
    obtain rfl := Option.some.inj H
    try go_wp2
    replace BK834 := Aside0.mk (blk_drew BK834.out)
    replace BK835 := Aside0.mk (blk_drew BK835.out)
    replace HB := Aside0.mk (below_drew1 HB.out)
    refine start_ (n := 7) (S := fun w' => w'.cell? ⟨gb834, 0, none⟩ = some (.slice A0_0 l0_0.length c0_0) ∧ w'.cell? ⟨gb834, 1, none⟩ = some (.slice A0_1 l0_1.length c0_1) ∧ w'.cell? ⟨gb835, 0, none⟩ = some (.slice A1_0 l1_0.length c1_0) ∧ w'.cell? ⟨gb835, 1, none⟩ = some (.slice A1_1 l1_1.length c1_1)) (ds := []) #[false, false, false, false, false, false, false] (by kernel_rfl) rfl rfl ⟨(blk_cell BK834.out 0).trans rfl, (blk_cell BK834.out 1).trans rfl, (blk_cell BK835.out 0).trans rfl, (blk_cell BK835.out 1).trans rfl⟩ (fun hHeld => ?_)
    generalize wc.drew = w29 at BK834 BK835 HB hHeld ⊢
    refine take_ (i := 0) (N := some 22) (v := ?_) (a' := ?_) #[true, false, false, false, false, false, false] rfl rfl (by kernel_rfl) (fun _ _ _ h => h) (Or.inl ⟨by rfl, ?_⟩) hHeld ?_ ?_
    rotate_left
    ·rintro w' ⟨s0, s1, s2, s3⟩
     go_simp
     with_reducible rfl
    rotate_left
    ·simp only [Act.put, List.setIfInBounds_toArray, List.set_cons_zero, List.set_cons_succ, i64_w, i32_w]
     rfl
    refine take_ (i := 2) (N := some 24) (v := ?_) (a' := ?_) #[true, false, true, false, false, false, false] rfl rfl (by kernel_rfl) (fun _ _ _ h => h) (Or.inl ⟨by rfl, ?_⟩) hHeld ?_ ?_
    rotate_left
    ·rintro w' ⟨s0, s1, s2, s3⟩
     go_simp
     with_reducible rfl
    rotate_left
    ·simp only [Act.put, List.setIfInBounds_toArray, List.set_cons_zero, List.set_cons_succ, i64_w, i32_w]
     rfl
    refine one_ (i := 1) (N := some 23) #[true, true, true, false, false, false, false] rfl rfl (by kernel_rfl) (by decide) (fun K hK => ?_)
    refine goes_ Try.func61 (by kernel_rfl) rfl #[.agg #[.slice A0_0 l0_0.length c0_0, .slice A0_1 l0_1.length c0_1]] (by rfl) rfl rfl (by (try simp only [List.map_toArray, List.map_cons, List.map_nil]); first | done | rfl | (simp only [List.length_drop, List.length_take]; rfl)) ?_
    with_reducible refine (impl_leastForm.calls kj2 _ _ l0_0 _ _ l0_1 t838 t841 _ ?side1 ?side2 ?side3 ?side4 A26.out).mono ?_
    (case side1 => exact cB HR0_0 HB)
    (case side2 => exact HC0_0.out)
    (case side3 => exact cB HR0_1 HB)
    (case side4 => exact HC0_1.out)
    rintro e w30 ⟨v839, v842, rfl, ho0, ho1, hb⟩
    refine ⟨_, rfl, ?_⟩
    have HO840 := rL ho0 HB
    have HO843 := rL ho1 HB
    replace BK834 := kB BK834 hb
    replace BK835 := kB BK835 hb
    replace HB := bS HB hb
    (try clear hb)
    (try clear hb2)
    (try clear hk)
    (try clear hi)
    (try clear ho0)
    (try clear ho1)
    refine hK.out _ _ ⟨(blk_cell BK834.out 0).trans rfl, (blk_cell BK834.out 1).trans rfl, (blk_cell BK835.out 0).trans rfl, (blk_cell BK835.out 1).trans rfl⟩ (fun hHeld => ?_)
    clear hK K
    refine norm_ (a' := ?_) ?_ ?_
    rotate_left
    ·show Act.put _ (some 23) _ = _
     simp only [Act.put, List.setIfInBounds_toArray, List.set_cons_zero, List.set_cons_succ, i64_w, i32_w]
     rfl
    refine one_ (i := 3) (N := some 25) #[true, true, true, true, false, false, false] rfl rfl (by kernel_rfl) (by decide) (fun K hK => ?_)
    refine goes_ Try.func61 (by kernel_rfl) rfl #[.agg #[.slice A1_0 l1_0.length c1_0, .slice A1_1 l1_1.length c1_1]] (by rfl) rfl rfl (by (try simp only [List.map_toArray, List.map_cons, List.map_nil]); first | done | rfl | (simp only [List.length_drop, List.length_take]; rfl)) ?_
    with_reducible refine (impl_leastForm.calls kj2 _ _ l1_0 _ _ l1_1 t844 t847 _ ?side1 ?side2 ?side3 ?side4 A27.out).mono ?_
    (case side1 => exact cB HR1_0 HB)
    (case side2 => exact HC1_0.out)
    (case side3 => exact cB HR1_1 HB)
    (case side4 => exact HC1_1.out)
    rintro e w31 ⟨v845, v848, rfl, ho0, ho1, hb⟩
    refine ⟨_, rfl, ?_⟩
    have HO846 := Aside0.mk (Kd.R_lower (Kd.R_new' (Kd.R_new' ho0 (Kd.R_lt (rP HO840))) (Kd.R_lt (rP HO843))) (below_size (bP HB)))
    have HO849 := Aside0.mk (Kd.R_lower (Kd.R_new' (Kd.R_new' ho1 (Kd.R_lt (rP HO840))) (Kd.R_lt (rP HO843))) (below_size (bP HB)))
    replace HO840 := Aside0.mk (Kd.R_mono (Kd.R_told (Kd.R_told (Kd.R_old (rP HO840) hb) (Kd.R_base ho0)) (Kd.R_base ho1)) (fun _ h_ => h_.1))
    replace HO843 := Aside0.mk (Kd.R_mono (Kd.R_told (Kd.R_told (Kd.R_old (rP HO843) hb) (Kd.R_base ho0)) (Kd.R_base ho1)) (fun _ h_ => h_.1))
    replace BK834 := kB BK834 hb
    replace BK835 := kB BK835 hb
    replace HB := bS HB hb
    (try clear hb)
    (try clear hb2)
    (try clear hk)
    (try clear hi)
    (try clear ho0)
    (try clear ho1)
    obtain ⟨Ao32, co32, eo32⟩ := Kd.R_slice HO840.out
    (first | subst eo32 | (injection eo32 with f1_ f2_ f3_; have f4_ := f1_.symm; have f5_ := f3_.symm; clear f1_ f2_ f3_; subst f4_; subst f5_))
    obtain ⟨Ao33, co33, eo33⟩ := Kd.R_slice HO843.out
    (first | subst eo33 | (injection eo33 with f1_ f2_ f3_; have f4_ := f1_.symm; have f5_ := f3_.symm; clear f1_ f2_ f3_; subst f4_; subst f5_))
    obtain ⟨Ao34, co34, eo34⟩ := Kd.R_slice HO846.out
    (first | subst eo34 | (injection eo34 with f1_ f2_ f3_; have f4_ := f1_.symm; have f5_ := f3_.symm; clear f1_ f2_ f3_; subst f4_; subst f5_))
    obtain ⟨Ao35, co35, eo35⟩ := Kd.R_slice HO849.out
    (first | subst eo35 | (injection eo35 with f1_ f2_ f3_; have f4_ := f1_.symm; have f5_ := f3_.symm; clear f1_ f2_ f3_; subst f4_; subst f5_))
    refine hK.out _ _ ⟨(blk_cell BK834.out 0).trans rfl, (blk_cell BK834.out 1).trans rfl, (blk_cell BK835.out 0).trans rfl, (blk_cell BK835.out 1).trans rfl⟩ (fun hHeld => ?_)
    clear hK K
    refine norm_ (a' := ?_) ?_ ?_
    rotate_left
    ·show Act.put _ (some 25) _ = _
     simp only [Act.put, List.setIfInBounds_toArray, List.set_cons_zero, List.set_cons_succ, i64_w, i32_w]
     rfl
    refine one_ (i := 4) (N := some 26) #[true, true, true, true, true, false, false] rfl rfl (by kernel_rfl) (by decide) (fun K hK => ?_)
    refine goes_ Try.func60 (by kernel_rfl) rfl #[.agg #[.slice Ao32 t838.length co32, .slice Ao33 t841.length co33], .agg #[.slice Ao34 t844.length co34, .slice Ao35 t847.length co35]] (by rfl) rfl rfl (by (try simp only [List.map_toArray, List.map_cons, List.map_nil]); first | done | rfl | (simp only [List.length_drop, List.length_take]; rfl)) ?_
    with_reducible refine (impl_compareMaps.calls kj2 _ _ t838 _ _ t841 _ _ t844 _ _ t847 t850 _ ?side1 ?side2 ?side3 ?side4 ?side5 ?side6 ?side7 ?side8 A28.out).mono ?_
    (case side1 => exact cP (Kd.R_reads' HO840.out).2.2)
    (case side2 => exact (Kd.R_reads' HO840.out).2.1)
    (case side3 => exact cP (Kd.R_reads' HO843.out).2.2)
    (case side4 => exact (Kd.R_reads' HO843.out).2.1)
    (case side5 => exact cP (Kd.R_reads' HO846.out).2.2)
    (case side6 => exact (Kd.R_reads' HO846.out).2.1)
    (case side7 => exact cP (Kd.R_reads' HO849.out).2.2)
    (case side8 => exact (Kd.R_reads' HO849.out).2.1)
    rintro e w36 ⟨rfl, hb⟩
    refine ⟨_, rfl, ?_⟩
    replace HO840 := rB HO840 hb
    replace HO843 := rB HO843 hb
    replace HO846 := rB HO846 hb
    replace HO849 := rB HO849 hb
    replace BK834 := kB BK834 hb
    replace BK835 := kB BK835 hb
    replace HB := bS HB hb
    (try clear hb)
    (try clear hb2)
    (try clear hk)
    (try clear hi)
    refine hK.out _ _ ⟨(blk_cell BK834.out 0).trans rfl, (blk_cell BK834.out 1).trans rfl, (blk_cell BK835.out 0).trans rfl, (blk_cell BK835.out 1).trans rfl⟩ (fun hHeld => ?_)
    clear hK K
    refine norm_ (a' := ?_) ?_ ?_
    rotate_left
    ·show Act.put _ (some 26) _ = _
     simp only [Act.put, List.setIfInBounds_toArray, List.set_cons_zero, List.set_cons_succ, i64_w, i32_w]
     rfl
    refine pure_ (i := 5) (N := some 27) (v := ?_) (a' := ?_) #[true, true, true, true, true, true, false] rfl rfl (by kernel_rfl) (fun _ _ _ h => h) (Or.inl ⟨by rfl, ?_⟩) ?_ ?_
    rotate_left
    ·intro w'
     go_simp
     with_reducible rfl
    rotate_left
    ·simp only [Act.put, List.setIfInBounds_toArray, List.set_cons_zero, List.set_cons_succ, i64_w, i32_w]
     rfl
    refine pure_ (i := 6) (N := some 4) (v := ?_) (a' := ?_) #[true, true, true, true, true, true, true] rfl rfl (by kernel_rfl) (fun _ _ _ h => h) (Or.inl ⟨by rfl, ?_⟩) ?_ ?_
    rotate_left
    ·intro w'
     go_simp
     with_reducible rfl
    rotate_left
    ·simp only [Act.put, List.setIfInBounds_toArray, List.set_cons_zero, List.set_cons_succ, i64_w, i32_w]
     rfl
    refine done_ (by kernel_rfl) ?_
    try go_wp2
    go_ret
    exact ⟨eR, bP HB⟩

end Go.Proofs.Ytihabnfccgjfbaa.F
