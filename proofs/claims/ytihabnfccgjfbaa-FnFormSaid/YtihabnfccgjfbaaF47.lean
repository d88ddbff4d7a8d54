/- Contracts: what these Go functions return. -/
import Derived.Test.YtihabnfccgjfbaaF0
import Derived.Test.YtihabnfccgjfbaaF5
import Derived.Test.YtihabnfccgjfbaaF7
import Derived.Test.YtihabnfccgjfbaaF8
import Derived.Test.YtihabnfccgjfbaaF19
namespace Go.Proofs.Ytihabnfccgjfbaa.F
open Go.RowKit Go.Proofs.YtihabnfccgjfbaaW.PrintWords Go.Proofs.YtihabnfccgjfbaaW.PrintLast Go.Proofs.YtihabnfccgjfbaaW.PrintMore
attribute [local go_sem] max2_int min2_int max_two min_two max_three min_three max_four min_four
set_option linter.unusedVariables false
set_option linter.unusedSimpArgs false

/-! ### spec_DrawMapForm: function 34 -/
def spec_DrawMapForm.f (k : Nat) (l0 : List Int) : Option (List Int × List Int × Int) := (spec_l6Open.f l0).bind fun bt912 => ((spec_l91Map.f k bt912.1 bt912.2 5).bind fun bt915 => ((spec_l91At.f k bt912.1 bt915.2.2 (bt915.1.length : Int)).bind fun bt923 => (some (bt915.1, bt915.2.1, bt923.1))))
def spec_DrawMapForm.T3 : Bool × List (List Nat × List Nat) := (true, [([], []), ([], []), ([], []), ([2], [2]), ([3], [3]), ([1, 4], [1, 4]), ([0, 5, 0], [0]), ([5, 6, 0, 1, 2, 3, 4, 5, 6], [5])])
def spec_DrawMapForm.B3 : List Nat := [0, 0, 0, 4, 12, 30, 63, 127]
theorem spec_DrawMapForm.tab3 : rtab .any (opsOf Try.f34 3) = spec_DrawMapForm.T3 := by kernel_rfl
theorem spec_DrawMapForm.bits3 : waitsOk spec_DrawMapForm.T3.2 spec_DrawMapForm.B3 = true := by kernel_rfl
set_option maxHeartbeats 8000000 in
set_option maxRecDepth 100000 in
theorem spec_DrawMapForm.calls (k : Nat) (A0 : Option Addr) (c0 : Nat) (l0 : List Int) (r1 : List Int) (r2 : List Int) (r3 : Int) (w : World) (hr0 : Kd.C (Kd.int .u8) w A0 l0.length l0) (hc0 : l0.length ≤ c0) (h : spec_DrawMapForm.f k l0 = some (r1, r2, r3)) :
 Calls Try.prog 34 #[.slice A0 l0.length c0] w fun e w' => ∃ v0_ v1_ : Value, e = .returned (.tuple #[.agg #[v0_, v1_], .int .i64 r3]) ∧ Kd.Q (Kd.int .i64) 3 w' w.heap.size (fun k_ => some k_ ≠ (v1_ : Value).ownBlock) v0_ r1 ∧ Kd.R (Kd.int .i64) 3 w' w.heap.size (fun k_ => some k_ ≠ (v0_ : Value).ownBlock) v1_ r2 ∧ Below w.heap.size w w' := by
 have hu25 := Try.underlying25
 have HR0 := Aside0.mk hr0
 have HC0 := Aside0.mk hc0
 clear hr0 hc0
 have HB := Aside0.mk (Below.refl w.heap.size w)
 have H : ((spec_l6Open.f l0).bind fun bt912 => ((spec_l91Map.f k bt912.1 bt912.2 5).bind fun bt915 => ((spec_l91At.f k bt912.1 bt915.2.2 (bt915.1.length : Int)).bind fun bt923 => (some (bt915.1, bt915.2.1, bt923.1))))) = some (r1, r2, r3) := h
 clear h
 replace H := Option.bind_eq_some_iff.mp H
 obtain ⟨⟨t912, t913⟩, A20, H⟩ := H
 replace H : ((spec_l91Map.f k t912 t913 5).bind fun bt915 => ((spec_l91At.f k t912 bt915.2.2 (bt915.1.length : Int)).bind fun bt923 => (some (bt915.1, bt915.2.1, bt923.1)))) = some (r1, r2, r3) := H
 have A2 := Aside0.mk A20
 clear A20
 replace H := Option.bind_eq_some_iff.mp H
 obtain ⟨⟨t915, t918, t921⟩, A30, H⟩ := H
 replace H : ((spec_l91At.f k t912 t921 (t915.length : Int)).bind fun bt923 => (some (t915, t918, bt923.1))) = some (r1, r2, r3) := H
 have A3 := Aside0.mk A30
 clear A30
 replace H := Option.bind_eq_some_iff.mp H
 obtain ⟨⟨t923, t924⟩, A40, H⟩ := H
 replace H : (some (t915, t918, t923)) = some (r1, r2, r3) := H
 have A4 := Aside0.mk A40
 clear A40
 simp only [Option.some.injEq, Prod.mk.injEq] at H
 obtain ⟨rfl, rfl, rfl⟩ := H
 go_enter Try.func34, Try.ntmps34
 try go_wp2_with (first | ((with_reducible refine gate_dst (N := 2) rfl ?_); refine bE 2 #[.slice none 0 0, .slice none 0 0] 25 ?_; intro gb911 hg w5 hbox hb; have BK911 := Aside0.mk (hbox); have GW911 := gS HB hg; have GE911 := gS HB hg; replace HB := bS HB hb; clear hb hbox hg) | ((with_reducible refine gate_callee (f := 37) rfl ?_); refine gL (some 7) Try.func37 #[.slice A0 l0.length c0] ?_; (with_reducible refine (spec_l6Open.calls _ _ l0 t912 t913 w _ ?side1 ?side2 ?side3 A2.out).mono ?_); (case side1 => exact bP HB); (case side2 => exact HR0.out); (case side3 => exact HC0.out); rintro e w6 ⟨g914, rfl, hi, hb, hb2⟩; refine ⟨_, rfl, ?_⟩; replace HB := Aside0.mk (hb); have HI914 := Aside0.mk (hi); have NB914_911 := Aside0.mk (IsS70.ne_blk hi (blk_below (kP BK911) hb2) (by decide)); have NB911_914 := Aside0.mk (Ne.symm (IsS70.ne_blk hi (blk_below (kP BK911) hb2) (by decide))); replace BK911 := kB BK911 hb2; (try clear hb); (try clear hb2); (try clear hk); (try clear hi)) | ((with_reducible refine gate_callee (f := 36) rfl ?_); refine gL (some 9) Try.func36 #[.pointer (some ⟨g914, 0, none⟩), .int .i64 5] ?_; (with_reducible refine (spec_l91Map.calls k g914 t912 t913 5 t915 t918 t921 w _ ?side1 ?side2 A3.out).mono ?_); (case side1 => repeat (first | (with_reducible first | exact HI914.out | apply IsS70.alloc | apply IsS70.drewN | apply IsS70.drew | apply IsS70.set_1 | refine IsS70.far ?_ NB914_911.out _) | exact HI914.out)); (case side2 => repeat (first | (with_reducible first | exact HB.out | apply below_alloc | apply pw_below_drewN | apply below_drew1 | refine below_set ?_ (IsS70.ge HI914.out) | refine below_set ?_ GE911.out) | exact HB.out)); rintro e w7 ⟨v916, v919, rfl, ho0, ho1, hi, hb, hk⟩; refine ⟨_, rfl, ?_⟩; replace BK911 := Aside0.mk (KeepBut.blk hk (g' := gb911) (o := .cells #[.slice none 0 0, .slice none 0 0] 25 (0, 0)) (kP BK911) NB911_914.out (by simp)); have HO917 := Aside0.mk (Kd.Q_lower ho0 (below_size (by repeat (first | (with_reducible first | exact HB.out | apply below_alloc | apply pw_below_drewN | apply below_drew1 | refine below_set ?_ (IsS70.ge HI914.out) | refine below_set ?_ GE911.out) | exact HB.out)))); have HO920 := Aside0.mk (Kd.R_lower ho1 (below_size (by repeat (first | (with_reducible first | exact HB.out | apply below_alloc | apply pw_below_drewN | apply below_drew1 | refine below_set ?_ (IsS70.ge HI914.out) | refine below_set ?_ GE911.out) | exact HB.out)))); replace HB := Aside0.mk (hb); replace HI914 := Aside0.mk (hi); (try clear hb); (try clear hb2); (try clear hk); (try clear hi); (try clear ho0); (try clear ho1)) | ((with_reducible refine gate_dst (N := 5) rfl ?_); refine bE 5 #[.slice none 0 0, .slice none 0 0] 25 ?_; intro gb922 hg w8 hbox hb; replace HO917 := Aside0.mk (Kd.Q_below (by (with_reducible repeat (first | apply Kd.Q_alloc | apply Kd.Q_drewN | apply Kd.Q_drew)); exact HO917.out) hb); replace HO920 := rB HO920 hb; have BK922 := Aside0.mk (hbox); have GW922 := Aside0.mk ((by rw [hg]; exact (below_size (by repeat (first | (with_reducible first | exact HB.out | apply below_alloc | apply pw_below_drewN | apply below_drew1 | refine below_set ?_ (IsS70.ge HI914.out) | refine below_set ?_ GE911.out) | exact HB.out))) : w.heap.size ≤ gb922)); have GE922 := Aside0.mk ((by rw [hg]; exact (below_size (by repeat (first | (with_reducible first | exact HB.out | apply below_alloc | apply pw_below_drewN | apply below_drew1 | refine below_set ?_ (IsS70.ge HI914.out) | refine below_set ?_ GE911.out) | exact HB.out))) : w.heap.size ≤ gb922)); replace HB := Aside0.mk (below_step (by repeat (first | (with_reducible first | exact HB.out | apply below_alloc | apply pw_below_drewN | apply below_drew1 | refine below_set ?_ (IsS70.ge HI914.out) | refine below_set ?_ GE911.out) | exact HB.out)) hb); have NB911_922 := nL BK911 hg; have NB922_911 := nG BK911 hg; replace BK911 := kB BK911 hb; have NB914_922 := Aside0.mk ((by rw [hg]; exact Nat.ne_of_lt (IsS70.lt (show IsS70 w _ g914 t912 t921 from by repeat (first | (with_reducible first | exact HI914.out | apply IsS70.alloc | apply IsS70.drewN | apply IsS70.drew | apply IsS70.set_1 | refine IsS70.far ?_ NB914_911.out _) | exact HI914.out))) : g914 ≠ gb922)); have NB922_914 := Aside0.mk ((by rw [hg]; exact Nat.ne_of_gt (IsS70.lt (show IsS70 w _ g914 t912 t921 from by repeat (first | (with_reducible first | exact HI914.out | apply IsS70.alloc | apply IsS70.drewN | apply IsS70.drew | apply IsS70.set_1 | refine IsS70.far ?_ NB914_911.out _) | exact HI914.out))) : gb922 ≠ g914)); replace HI914 := Aside0.mk (IsS70.below (by repeat (first | (with_reducible first | exact HI914.out | apply IsS70.alloc | apply IsS70.drewN | apply IsS70.drew | apply IsS70.set_1 | refine IsS70.far ?_ NB914_911.out _) | exact HI914.out)) hb); clear hb hbox hg; obtain ⟨Ao9, co9, eo9, _⟩ := Kd.Q_slice HO917.out; subst eo9; have hnb10 := NB922_911.out; have hnc10 := NB911_922.out; have hnb11 := NB922_914.out; have hnc11 := NB914_922.out; have hcz12_0 := zc0 BK922; have hcz12_1 := zc1 BK922; have hfz12_0 := blk_frozen BK922.out 0; have hfz12_1 := blk_frozen BK922.out 1; obtain ⟨Ao13, co13, eo13⟩ := Kd.R_slice HO920.out; subst eo13))
 have n0_ : Aside0 (Kd.Q (Kd.int .i64) 3 ((w8.setCell ⟨gb922, 0, none⟩ (.slice Ao9 t915.length co9)).setCell ⟨gb922, 1, none⟩ (.slice Ao13 t918.length co13)) w.heap.size (fun k_ => some k_ ≠ (.slice Ao13 t918.length co13 : Value).ownBlock) (.slice Ao9 t915.length co9) t915) := ⟨by (with_reducible repeat (first | apply Kd.Q_alloc | apply Kd.Q_drewN | apply Kd.Q_drew)); exact Kd.Q_mono (Kd.Q_far (p := ⟨gb922, 1, none⟩) (Kd.Q_far (p := ⟨gb922, 0, none⟩) (Kd.Q_types HO917.out BK922.out (by decide)) (fun _ hk => hk.2) (.slice Ao9 t915.length co9)) (fun _ hk => hk.2) (.slice Ao13 t918.length co13)) (fun _ hk => hk.1)⟩
 have n1_ : Aside0 (Kd.R (Kd.int .i64) 3 ((w8.setCell ⟨gb922, 0, none⟩ (.slice Ao9 t915.length co9)).setCell ⟨gb922, 1, none⟩ (.slice Ao13 t918.length co13)) w.heap.size (fun k_ => some k_ ≠ (.slice Ao9 t915.length co9 : Value).ownBlock) (.slice Ao13 t918.length co13) t918) := ⟨by (with_reducible repeat (first | apply Kd.R_alloc | apply Kd.R_drewN | apply Kd.R_drew)); exact Kd.R_mono (Kd.R_far (p := ⟨gb922, 1, none⟩) (Kd.R_far (p := ⟨gb922, 0, none⟩) (Kd.R_types HO920.out BK922.out (by decide)) (fun _ hk => hk.2) (.slice Ao9 t915.length co9)) (fun _ hk => hk.2) (.slice Ao13 t918.length co13)) (fun _ hk => hk.1)⟩
 have n2_ : Aside0 (((w8.setCell ⟨gb922, 0, none⟩ (.slice Ao9 t915.length co9)).setCell ⟨gb922, 1, none⟩ (.slice Ao13 t918.length co13)).heap[gb911]? = some (.cells #[.slice none 0 0, .slice none 0 0] 25 (0, 0))) := ⟨kF BK911⟩
 have n3_ : Aside0 (((w8.setCell ⟨gb922, 0, none⟩ (.slice Ao9 t915.length co9)).setCell ⟨gb922, 1, none⟩ (.slice Ao13 t918.length co13)).heap[gb922]? = some (.cells #[.slice Ao9 t915.length co9, .slice Ao13 t918.length co13] 25 (0, 0))) := ⟨by (with_reducible repeat (first | refine blk_drewN ?_ _ | refine blk_drew ?_ | refine blk_alloc ?_ _)); refine blk_put (cs := #[.slice Ao9 t915.length co9, .slice none 0 0]) ?_ 1 _ rfl; (with_reducible repeat (first | refine blk_drewN ?_ _ | refine blk_drew ?_ | refine blk_alloc ?_ _)); refine blk_put (cs := #[.slice none 0 0, .slice none 0 0]) ?_ 0 _ rfl; (with_reducible repeat (first | refine blk_drewN ?_ _ | refine blk_drew ?_ | refine blk_alloc ?_ _)); exact BK922.out⟩
 have n4_ : Aside0 (IsS70 w ((w8.setCell ⟨gb922, 0, none⟩ (.slice Ao9 t915.length co9)).setCell ⟨gb922, 1, none⟩ (.slice Ao13 t918.length co13)) g914 t912 t921) := ⟨by repeat (first | (with_reducible first | exact HI914.out | apply IsS70.alloc | apply IsS70.drewN | apply IsS70.drew | apply IsS70.set_1 | refine IsS70.far ?_ NB914_911.out _ | refine IsS70.far ?_ NB914_922.out _) | exact HI914.out)⟩
 have n5_ : Aside0 (Below w.heap.size w ((w8.setCell ⟨gb922, 0, none⟩ (.slice Ao9 t915.length co9)).setCell ⟨gb922, 1, none⟩ (.slice Ao13 t918.length co13))) := ⟨by repeat (first | (with_reducible first | exact HB.out | apply below_alloc | apply pw_below_drewN | apply below_drew1 | refine below_set ?_ (IsS70.ge HI914.out) | refine below_set ?_ GE911.out | refine below_set ?_ GE922.out) | exact HB.out)⟩
 (try clear HO917)
 (try clear HO920)
 (try clear BK911)
 (try clear BK922)
 (try clear HI914)
 (try clear HB)
 generalize ((w8.setCell ⟨gb922, 0, none⟩ (.slice Ao9 t915.length co9)).setCell ⟨gb922, 1, none⟩ (.slice Ao13 t918.length co13)) = w14 at n0_ n1_ n2_ n3_ n4_ n5_ ⊢
 have HO917 := n0_
 have HO920 := n1_
 have BK911 := n2_
 have BK922 := n3_
 have HI914 := n4_
 have HB := n5_
 clear n0_ n1_ n2_ n3_ n4_ n5_
 have n0_ := Aside0.mk (Kd.Q_drew HO917.out)
 have n1_ := Aside0.mk (Kd.R_drew HO920.out)
 have n2_ := Aside0.mk (blk_drew BK911.out)
 have n3_ := Aside0.mk (blk_drew BK922.out)
 have n4_ := Aside0.mk (IsS70.drew HI914.out)
 have n5_ := Aside0.mk (below_drew1 HB.out)
 clear HO917
 clear HO920
 clear BK911
 clear BK922
 clear HI914
 clear HB
 have HO917 := n0_
 have HO920 := n1_
 have BK911 := n2_
 have BK922 := n3_
 have HI914 := n4_
 have HB := n5_
 clear n0_ n1_ n2_ n3_ n4_ n5_
 refine start_ (n := 8) (S := fun w' => w'.cell? ⟨gb922, 0, none⟩ = some (.slice Ao9 t915.length co9) ∧ w'.cell? ⟨gb922, 1, none⟩ = some (.slice Ao13 t918.length co13)) (ds := []) #[false, false, false, false, false, false, false, false] (by kernel_rfl) rfl rfl ⟨(blk_cell BK922.out 0).trans rfl, (blk_cell BK922.out 1).trans rfl⟩ (fun hHeld => ?_); refine with_tabW spec_DrawMapForm.tab3 spec_DrawMapForm.bits3 (fun HT_ HW_ => ?_)
 generalize w14.drew = w15 at HO917 HO920 BK911 BK922 HI914 HB hHeld ⊢
 refine pure_ (i := 1) (N := some 11) (v := ?_) (a' := ?_) #[false, true, false, false, false, false, false, false] rfl rfl (any_of HT_.out (by kernel_rfl)) (fun _ _ _ h => h) (Or.inl ⟨by rfl, ?_⟩) ?_ ?_
 rotate_left
 ·intro w'
  go_simp
  with_reducible rfl
 rotate_left
 ·simp only [Act.put, List.setIfInBounds_toArray, List.set_cons_zero, List.set_cons_succ, i64_w, i32_w]
  rfl
 refine pure_ (i := 2) (N := some 12) (v := ?_) (a' := ?_) #[false, true, true, false, false, false, false, false] rfl rfl (any_of HT_.out (by kernel_rfl)) (fun _ _ _ h => h) (Or.inl ⟨by rfl, ?_⟩) ?_ ?_
 rotate_left
 ·intro w'
  go_simp
  with_reducible rfl
 rotate_left
 ·simp only [Act.put, List.setIfInBounds_toArray, List.set_cons_zero, List.set_cons_succ, i64_w, i32_w]
  rfl
 refine take_ (i := 0) (N := some 10) (v := ?_) (a' := ?_) #[true, true, true, false, false, false, false, false] rfl rfl (take_ofW HT_.out HW_.out (by kernel_rfl)) (fun _ _ _ h => h) (Or.inl ⟨by rfl, ?_⟩) hHeld ?_ ?_
 rotate_left
 ·rintro w' ⟨s0, s1⟩
  go_simp
  with_reducible rfl
 rotate_left
 ·simp only [Act.put, List.setIfInBounds_toArray, List.set_cons_zero, List.set_cons_succ, i64_w, i32_w]
  rfl
 refine take_ (i := 3) (N := some 13) (v := ?_) (a' := ?_) #[true, true, true, true, false, false, false, false] rfl rfl (take_ofW HT_.out HW_.out (by kernel_rfl)) (fun _ _ _ h => h) (Or.inl ⟨by rfl, ?_⟩) hHeld ?_ ?_
 rotate_left
 ·rintro w' ⟨s0, s1⟩
  go_simp
  with_reducible rfl
 rotate_left
 ·simp only [Act.put, List.setIfInBounds_toArray, List.set_cons_zero, List.set_cons_succ, i64_w, i32_w]
  rfl
 refine pure_ (i := 4) (N := some 14) (v := ?_) (a' := ?_) #[true, true, true, true, true, false, false, false] rfl rfl (any_of HT_.out (by kernel_rfl)) (fun _ _ _ h => h) (Or.inl ⟨by rfl, ?_⟩) ?_ ?_
 rotate_left
 ·intro w'
  go_simp
  with_reducible rfl
 rotate_left
 ·simp only [Act.put, List.setIfInBounds_toArray, List.set_cons_zero, List.set_cons_succ, i64_w, i32_w]
  rfl
 refine one_ (i := 5) (N := some 15) #[true, true, true, true, true, true, false, false] rfl rfl (one_of HT_.out (by kernel_rfl)) (by decide) (fun K hK => ?_)
 refine goes_ Try.func44 (by kernel_rfl) rfl #[.pointer (some ⟨g914, 0, none⟩), .int .i64 (t915.length : Int)] (by rfl) rfl rfl (by (try simp only [List.map_toArray, List.map_cons, List.map_nil]); first | done | rfl | (simp only [List.length_drop, List.length_take]; rfl)) ?_
 with_reducible refine (spec_l91At.calls k g914 t912 t921 (t915.length : Int) t923 t924 w _ ?side1 ?side2 A4.out).mono ?_
 (case side1 => repeat (first | (with_reducible first | exact HI914.out | apply IsS70.alloc | apply IsS70.drewN | apply IsS70.drew | apply IsS70.set_1 | refine IsS70.far ?_ NB914_911.out _ | refine IsS70.far ?_ NB914_922.out _) | exact HI914.out))
 (case side2 => repeat (first | (with_reducible first | exact HB.out | apply below_alloc | apply pw_below_drewN | apply below_drew1 | refine below_set ?_ (IsS70.ge HI914.out) | refine below_set ?_ GE911.out | refine below_set ?_ GE922.out) | exact HB.out))
 rintro e w16 ⟨rfl, hi, hb, hk⟩
 refine ⟨_, rfl, ?_⟩
 have n0_ := Aside0.mk (KeepBut.blk hk (g' := gb911) (o := .cells #[.slice none 0 0, .slice none 0 0] 25 (0, 0)) (kP BK911) NB911_914.out (by simp))
 have n1_ := Aside0.mk (Kd.Q_mono (Kd.Q_keep (IsS70.apartQ (show IsS70 w _ g914 t912 t921 from by repeat (first | (with_reducible first | exact HI914.out | apply IsS70.alloc | apply IsS70.drewN | apply IsS70.drew | apply IsS70.set_1 | refine IsS70.far ?_ NB914_911.out _ | refine IsS70.far ?_ NB914_922.out _) | exact HI914.out)) (by (with_reducible repeat (first | apply Kd.Q_alloc | apply Kd.Q_drewN | apply Kd.Q_drew)); exact HO917.out) (by decide)) hk (fun _ h => h.2)) (fun _ h => h.1))
 have n2_ := Aside0.mk (Kd.R_mono (Kd.R_keep (IsS70.apart (show IsS70 w _ g914 t912 t921 from by repeat (first | (with_reducible first | exact HI914.out | apply IsS70.alloc | apply IsS70.drewN | apply IsS70.drew | apply IsS70.set_1 | refine IsS70.far ?_ NB914_911.out _ | refine IsS70.far ?_ NB914_922.out _) | exact HI914.out)) (rP HO920) (by decide)) hk (fun _ h => h.2)) (fun _ h => h.1))
 have n3_ := Aside0.mk (KeepBut.blk hk (g' := gb922) (o := .cells #[.slice Ao9 t915.length co9, .slice Ao13 t918.length co13] 25 (0, 0)) (kP BK922) NB922_914.out (by simp))
 have n4_ := Aside0.mk (hb)
 have n5_ := Aside0.mk (hi)
 clear BK911
 clear HO917
 clear HO920
 clear BK922
 clear HB
 clear HI914
 have BK911 := n0_
 have HO917 := n1_
 have HO920 := n2_
 have BK922 := n3_
 have HB := n4_
 have HI914 := n5_
 clear n0_ n1_ n2_ n3_ n4_ n5_
 (try clear hb)
 (try clear hb2)
 (try clear hk)
 (try clear hi)
 refine hK.out _ _ ⟨(blk_cell BK922.out 0).trans rfl, (blk_cell BK922.out 1).trans rfl⟩ (fun hHeld => ?_)
 clear hK K
 refine norm_ (a' := ?_) ?_ ?_
 rotate_left
 ·show Act.put _ (some 15) _ = _
  simp only [Act.put, List.setIfInBounds_toArray, List.set_cons_zero, List.set_cons_succ, i64_w, i32_w]
  rfl
 refine one_ (i := 6) (N := none) #[true, true, true, true, true, true, true, false] rfl rfl (one_of HT_.out (by kernel_rfl)) (by decide) (fun K hK => ?_)
 have hs17 : w16.cell? ⟨gb911, 0, none⟩ = some (.slice none 0 0) := (blk_cell BK911.out 0).trans rfl
 have hfs17 := blk_frozen BK911.out 0
 have hns17_1 := NB922_911.out
 have hms17_1 := NB911_922.out
 have hs18 : w16.cell? ⟨gb911, 1, none⟩ = some (.slice none 0 0) := (blk_cell BK911.out 1).trans rfl
 have hfs18 := blk_frozen BK911.out 1
 have hns18_1 := NB922_911.out
 have hms18_1 := NB911_922.out
 refine skip_ (w1 := ?_) (by rfl) rfl ?_ ?_
 rotate_left
 ·go_simp
  rfl
 refine hK.out _ _ ⟨((cell_far (p := ⟨gb911, _, none⟩) NB922_911.out _).trans (((cell_far (p := ⟨gb911, _, none⟩) NB922_911.out _).trans (hHeld.1)))), ((cell_far (p := ⟨gb911, _, none⟩) NB922_911.out _).trans (((cell_far (p := ⟨gb911, _, none⟩) NB922_911.out _).trans (hHeld.2))))⟩ (fun hHeld => ?_)
 clear hK K
 refine pure_ (i := 7) (N := some 3) (v := ?_) (a' := ?_) #[true, true, true, true, true, true, true, true] rfl rfl (any_of HT_.out (by kernel_rfl)) (fun _ _ _ h => h) (Or.inl ⟨by rfl, ?_⟩) ?_ ?_
 rotate_left
 ·intro w'
  go_simp
  with_reducible rfl
 rotate_left
 ·simp only [Act.put, List.setIfInBounds_toArray, List.set_cons_zero, List.set_cons_succ, i64_w, i32_w]
  rfl
 refine done_ (done_of HT_.out (by kernel_rfl)) ?_
 try go_wp2
 refine bodyPost_ret (results_ct rfl _ _ gb911 25 #[.slice Ao9 t915.length co9, .slice Ao13 t918.length co13] (0, 0) _ rfl (by (with_reducible repeat (first | refine blk_drewN ?_ _ | refine blk_drew ?_ | refine blk_alloc ?_ _)); refine blk_put (cs := #[.slice Ao9 t915.length co9, .slice none 0 0]) ?_ 1 _ rfl; (with_reducible repeat (first | refine blk_drewN ?_ _ | refine blk_drew ?_ | refine blk_alloc ?_ _)); refine blk_put (cs := #[.slice none 0 0, .slice none 0 0]) ?_ 0 _ rfl; (with_reducible repeat (first | refine blk_drewN ?_ _ | refine blk_drew ?_ | refine blk_alloc ?_ _)); exact BK911.out) Try.underlying25 rfl (by kernel_rfl)) rfl ?_
 exact ⟨_, _, eR, by (with_reducible repeat (first | apply Kd.Q_alloc | apply Kd.Q_drewN | apply Kd.Q_drew)); exact Kd.Q_mono (Kd.Q_far (p := ⟨gb911, 1, none⟩) (Kd.Q_far (p := ⟨gb911, 0, none⟩) (Kd.Q_types HO917.out BK911.out (by decide)) (fun _ hk => hk.2) (.slice Ao9 t915.length co9)) (fun _ hk => hk.2) (.slice Ao13 t918.length co13)) (fun _ hk => hk.1), by (with_reducible repeat (first | apply Kd.R_alloc | apply Kd.R_drewN | apply Kd.R_drew)); exact Kd.R_mono (Kd.R_far (p := ⟨gb911, 1, none⟩) (Kd.R_far (p := ⟨gb911, 0, none⟩) (Kd.R_types HO920.out BK911.out (by decide)) (fun _ hk => hk.2) (.slice Ao9 t915.length co9)) (fun _ hk => hk.2) (.slice Ao13 t918.length co13)) (fun _ hk => hk.1), by repeat (first | (with_reducible first | exact HB.out | apply below_alloc | apply pw_below_drewN | apply below_drew1 | refine below_set ?_ (IsS70.ge HI914.out) | refine below_set ?_ GE911.out | refine below_set ?_ GE922.out) | exact HB.out)⟩

end Go.Proofs.Ytihabnfccgjfbaa.F
