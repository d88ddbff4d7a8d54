/- Contracts: what these Go functions return. -/
import Derived.Test.YtihabnfccgjfbaaF0
import Derived.Test.YtihabnfccgjfbaaF5
import Derived.Test.YtihabnfccgjfbaaF6
import Derived.Test.YtihabnfccgjfbaaF7
import Derived.Test.YtihabnfccgjfbaaF8
import Derived.Test.YtihabnfccgjfbaaF39
namespace Go.Proofs.Ytihabnfccgjfbaa.F
open Go.RowKit Go.Proofs.YtihabnfccgjfbaaW.PrintWords Go.Proofs.YtihabnfccgjfbaaW.PrintLast Go.Proofs.YtihabnfccgjfbaaW.PrintMore
attribute [local go_sem] max2_int min2_int max_two min_two max_three min_three max_four min_four
set_option linter.unusedVariables false
set_option linter.unusedSimpArgs false

/-! ### spec_DrawMapRename: function 30 -/
def spec_DrawMapRename.j0 : Nat → Bool → List Int → Int → List Int → List Int → Option (List Int × List Int × List Int)
 | 0, _, _, _, _, _ => none
 | k + 1, x18, x742000, x742001, x750000, x750001 => if x18 = true then ((spec_l91Some.f k x742000 x742001 10).bind fun bt752 => (some (x750000, x750001, bt752.1))) else ((spec_l91Perm.f k x742000 x742001 (x750000.length : Int)).bind fun bt756 => (some (x750000, x750001, bt756.1)))
def spec_DrawMapRename.f (k : Nat) (l0 : List Int) : Option (List Int × List Int × List Int) := (spec_l6Open.f l0).bind fun bt739 => ((spec_l91Map.f k bt739.1 bt739.2 5).bind fun bt742 => ((spec_l6Rd_pick.f k bt739.1 bt742.2.2 16).bind fun bt750 => (if bt750.1 = 0 then (spec_DrawMapRename.j0 k true bt739.1 bt750.2 bt742.1 bt742.2.1) else (spec_DrawMapRename.j0 k ((bt742.1.length : Int) == 0) bt739.1 bt750.2 bt742.1 bt742.2.1))))
def spec_DrawMapRename.T5 : Bool × List (List Nat × List Nat) := (true, [([], []), ([], []), ([], []), ([2], [2]), ([3], [3]), ([1, 4], [1, 4]), ([0, 5, 0], [0]), ([5, 6, 0, 1, 2, 3, 4, 5, 6], [5])])
def spec_DrawMapRename.B5 : List Nat := [0, 0, 0, 4, 12, 30, 63, 127]
theorem spec_DrawMapRename.tab5 : rtab .any (opsOf Try.f30 5) = spec_DrawMapRename.T5 := by kernel_rfl
theorem spec_DrawMapRename.bits5 : waitsOk spec_DrawMapRename.T5.2 spec_DrawMapRename.B5 = true := by kernel_rfl
set_option maxHeartbeats 8000000 in
set_option maxRecDepth 100000 in
theorem spec_DrawMapRename.calls (k : Nat) (A0 : Option Addr) (c0 : Nat) (l0 : List Int) (r1 : List Int) (r2 : List Int) (r3 : List Int) (w : World) (hr0 : Kd.C (Kd.int .u8) w A0 l0.length l0) (hc0 : l0.length ≤ c0) (h : spec_DrawMapRename.f k l0 = some (r1, r2, r3)) :
 Calls Try.prog 30 #[.slice A0 l0.length c0] w fun e w' => ∃ v0_ v1_ v2_ : Value, e = .returned (.tuple #[.agg #[v0_, v1_], v2_]) ∧ Kd.Q (Kd.int .i64) 3 w' w.heap.size (fun k_ => some k_ ≠ (v1_ : Value).ownBlock ∧ some k_ ≠ (v2_ : Value).ownBlock) v0_ r1 ∧ Kd.R (Kd.int .i64) 3 w' w.heap.size (fun k_ => some k_ ≠ (v0_ : Value).ownBlock ∧ some k_ ≠ (v2_ : Value).ownBlock) v1_ r2 ∧ Kd.R (Kd.int .i64) 3 w' w.heap.size (fun k_ => some k_ ≠ (v0_ : Value).ownBlock ∧ some k_ ≠ (v1_ : Value).ownBlock) v2_ r3 ∧ Below w.heap.size w w' := by
 have hu25 := Try.underlying25
 have HR0 := Aside0.mk hr0
 have HC0 := Aside0.mk hc0
 clear hr0 hc0
 have HB := Aside0.mk (Below.refl w.heap.size w)
 have H : ((spec_l6Open.f l0).bind fun bt739 => ((spec_l91Map.f k bt739.1 bt739.2 5).bind fun bt742 => ((spec_l6Rd_pick.f k bt739.1 bt742.2.2 16).bind fun bt750 => (if bt750.1 = 0 then (spec_DrawMapRename.j0 k true bt739.1 bt750.2 bt742.1 bt742.2.1) else (spec_DrawMapRename.j0 k ((bt742.1.length : Int) == 0) bt739.1 bt750.2 bt742.1 bt742.2.1))))) = some (r1, r2, r3) := h
 clear h
 replace H := Option.bind_eq_some_iff.mp H
 obtain ⟨⟨t739, t740⟩, A20, H⟩ := H
 replace H : ((spec_l91Map.f k t739 t740 5).bind fun bt742 => ((spec_l6Rd_pick.f k t739 bt742.2.2 16).bind fun bt750 => (if bt750.1 = 0 then (spec_DrawMapRename.j0 k true t739 bt750.2 bt742.1 bt742.2.1) else (spec_DrawMapRename.j0 k ((bt742.1.length : Int) == 0) t739 bt750.2 bt742.1 bt742.2.1)))) = some (r1, r2, r3) := H
 have A2 := Aside0.mk A20
 clear A20
 replace H := Option.bind_eq_some_iff.mp H
 obtain ⟨⟨t742, t745, t748⟩, A30, H⟩ := H
 replace H : ((spec_l6Rd_pick.f k t739 t748 16).bind fun bt750 => (if bt750.1 = 0 then (spec_DrawMapRename.j0 k true t739 bt750.2 t742 t745) else (spec_DrawMapRename.j0 k ((t742.length : Int) == 0) t739 bt750.2 t742 t745))) = some (r1, r2, r3) := H
 have A3 := Aside0.mk A30
 clear A30
 have HC4 := Aside0.mk H
 clear H
 go_enter Try.func30, Try.ntmps30
 go_upto_region 3 with (first | ((with_reducible refine gate_dst (N := 2) rfl ?_); (try (refine gate_guard (by rfl) ?_; dsimp only)); refine bE 2 #[.slice none 0 0, .slice none 0 0] 25 ?_; intro gb738 hg w5 hbox hb; have BK738 := Aside0.mk (hbox); have GW738 := gS HB hg; have GE738 := gS HB hg; replace HB := bS HB hb; clear hb hbox hg) | ((with_reducible refine gate_callee (f := 37) rfl ?_); refine gL (some 7) Try.func37 #[.slice A0 l0.length c0] ?_; (with_reducible refine (spec_l6Open.calls _ _ l0 t739 t740 w _ ?side1 ?side2 ?side3 A2.out).mono ?_); (case side1 => exact bP HB); (case side2 => exact HR0.out); (case side3 => exact HC0.out); rintro e w6 ⟨g741, rfl, hi, hb, hb2⟩; refine ⟨_, rfl, ?_⟩; replace HB := Aside0.mk (hb); have HI741 := Aside0.mk (hi); have NB741_738 := Aside0.mk (IsS70.ne_blk hi (blk_below (kP BK738) hb2) (by decide)); have NB738_741 := Aside0.mk (Ne.symm (IsS70.ne_blk hi (blk_below (kP BK738) hb2) (by decide))); replace BK738 := kB BK738 hb2; (try clear hb); (try clear hb2); (try clear hk); (try clear hi)) | ((with_reducible refine gate_callee (f := 36) rfl ?_); refine gL (some 9) Try.func36 #[.pointer (some ⟨g741, 0, none⟩), .int .i64 5] ?_; (with_reducible refine (spec_l91Map.calls k g741 t739 t740 5 t742 t745 t748 w _ ?side1 ?side2 A3.out).mono ?_); (case side1 => repeat (first | (with_reducible first | exact HI741.out | apply IsS70.alloc | apply IsS70.drewN | apply IsS70.drew | apply IsS70.set_1 | refine IsS70.far ?_ NB741_738.out _) | exact HI741.out)); (case side2 => repeat (first | (with_reducible first | exact HB.out | apply below_alloc | apply pw_below_drewN | apply below_drew1 | refine below_set ?_ (IsS70.ge HI741.out) | refine below_set ?_ GE738.out) | exact HB.out)); rintro e w7 ⟨v743, v746, rfl, ho0, ho1, hi, hb, hk⟩; refine ⟨_, rfl, ?_⟩; replace BK738 := Aside0.mk (KeepBut.blk hk (g' := gb738) (o := .cells #[.slice none 0 0, .slice none 0 0] 25 (0, 0)) (kP BK738) NB738_741.out (by simp)); have HO744 := Aside0.mk (Kd.Q_lower ho0 (below_size (by repeat (first | (with_reducible first | exact HB.out | apply below_alloc | apply pw_below_drewN | apply below_drew1 | refine below_set ?_ (IsS70.ge HI741.out) | refine below_set ?_ GE738.out) | exact HB.out)))); have HO747 := Aside0.mk (Kd.R_lower ho1 (below_size (by repeat (first | (with_reducible first | exact HB.out | apply below_alloc | apply pw_below_drewN | apply below_drew1 | refine below_set ?_ (IsS70.ge HI741.out) | refine below_set ?_ GE738.out) | exact HB.out)))); replace HB := Aside0.mk (hb); replace HI741 := Aside0.mk (hi); (try clear hb); (try clear hb2); (try clear hk); (try clear hi); (try clear ho0); (try clear ho1)) | ((with_reducible refine gate_dst (N := 5) rfl ?_); (try (refine gate_guard (by rfl) ?_; dsimp only)); refine bE 5 #[.slice none 0 0, .slice none 0 0] 25 ?_; intro gb749 hg w8 hbox hb; replace HO744 := Aside0.mk (Kd.Q_below (qP HO744) hb); replace HO747 := rB HO747 hb; have BK749 := Aside0.mk (hbox); have GW749 := Aside0.mk ((by rw [hg]; exact (below_size (by repeat (first | (with_reducible first | exact HB.out | apply below_alloc | apply pw_below_drewN | apply below_drew1 | refine below_set ?_ (IsS70.ge HI741.out) | refine below_set ?_ GE738.out) | exact HB.out))) : w.heap.size ≤ gb749)); have GE749 := Aside0.mk ((by rw [hg]; exact (below_size (by repeat (first | (with_reducible first | exact HB.out | apply below_alloc | apply pw_below_drewN | apply below_drew1 | refine below_set ?_ (IsS70.ge HI741.out) | refine below_set ?_ GE738.out) | exact HB.out))) : w.heap.size ≤ gb749)); replace HB := Aside0.mk (below_step (by repeat (first | (with_reducible first | exact HB.out | apply below_alloc | apply pw_below_drewN | apply below_drew1 | refine below_set ?_ (IsS70.ge HI741.out) | refine below_set ?_ GE738.out) | exact HB.out)) hb); have NB738_749 := nL BK738 hg; have NB749_738 := nG BK738 hg; replace BK738 := kB BK738 hb; have NB741_749 := Aside0.mk ((by rw [hg]; exact Nat.ne_of_lt (IsS70.lt (show IsS70 w _ g741 t739 t748 from by repeat (first | (with_reducible first | exact HI741.out | apply IsS70.alloc | apply IsS70.drewN | apply IsS70.drew | apply IsS70.set_1 | refine IsS70.far ?_ NB741_738.out _) | exact HI741.out))) : g741 ≠ gb749)); have NB749_741 := Aside0.mk ((by rw [hg]; exact Nat.ne_of_gt (IsS70.lt (show IsS70 w _ g741 t739 t748 from by repeat (first | (with_reducible first | exact HI741.out | apply IsS70.alloc | apply IsS70.drewN | apply IsS70.drew | apply IsS70.set_1 | refine IsS70.far ?_ NB741_738.out _) | exact HI741.out))) : gb749 ≠ g741)); replace HI741 := Aside0.mk (IsS70.below (by repeat (first | (with_reducible first | exact HI741.out | apply IsS70.alloc | apply IsS70.drewN | apply IsS70.drew | apply IsS70.set_1 | refine IsS70.far ?_ NB741_738.out _) | exact HI741.out)) hb); clear hb hbox hg; obtain ⟨Ao9, co9, eo9, _⟩ := Kd.Q_slice HO744.out; subst eo9; have hnb10 := NB749_738.out; have hnc10 := NB738_749.out; have hnb11 := NB749_741.out; have hnc11 := NB741_749.out; have hcz12_0 := zc0 BK749; have hcz12_1 := zc1 BK749; have hfz12_0 := blk_frozen BK749.out 0; have hfz12_1 := blk_frozen BK749.out 1; obtain ⟨Ao13, co13, eo13⟩ := Kd.R_slice HO747.out; subst eo13))
 (try simp only [Act.put, List.setIfInBounds_toArray, List.set_cons_zero, List.set_cons_succ])
 go_cut [18] (fun v18 wc => ∃ (kq : Nat) (x18_3 : Bool) (x742001_3 : Int), v18 = .bool x18_3 ∧ Aside0 (spec_DrawMapRename.j0 kq x18_3 t739 x742001_3 t742 t745 = some (r1, r2, r3)) ∧ Aside0 (kq ≤ k) ∧ Aside0 (Kd.Q (Kd.int .i64) 3 wc w.heap.size (fun k_ => some k_ ≠ ((.slice Ao13 t745.length co13) : Value).ownBlock) (.slice Ao9 t742.length co9) t742) ∧ Aside0 (Kd.R (Kd.int .i64) 3 wc w.heap.size (fun k_ => some k_ ≠ ((.slice Ao9 t742.length co9) : Value).ownBlock) (.slice Ao13 t745.length co13) t745) ∧ Aside0 (wc.heap[gb738]? = some (.cells #[(.slice none 0 0), (.slice none 0 0)] 25 (0, 0))) ∧ Aside0 (wc.heap[gb749]? = some (.cells #[(.slice Ao9 t742.length co9), (.slice Ao13 t745.length co13)] 25 (0, 0))) ∧ Aside0 (IsS70 w wc g741 t739 x742001_3) ∧ Aside0 (Below w.heap.size w wc))
 case first =>
  have H := HC4.out
  clear HC4
  replace H := Option.bind_eq_some_iff.mp H
  obtain ⟨⟨t750, t751⟩, A140, H⟩ := H
  replace H : (if t750 = 0 then (spec_DrawMapRename.j0 k true t739 t751 t742 t745) else (spec_DrawMapRename.j0 k ((t742.length : Int) == 0) t739 t751 t742 t745)) = some (r1, r2, r3) := H
  have A14 := Aside0.mk A140
  clear A140
  by_cases c15 : t750 = 0
  ·rw [if_pos c15] at H
   have c15b0 : (t750 == 0) = true := beq_iff_eq.mpr c15
   have c15b1 : (t750 != 0) = false := bne_eq_false_iff_eq.mpr c15
   clear c15
   (first | rw [c15b0] | (simp only [i64_w, i32_w]; rw [c15b0]) | skip)
   have H' := Aside0.mk H
   clear H
   go_wp2_with (first | ((with_reducible refine gate_callee (f := 55) rfl ?_); refine gL (some 11) Try.func55 #[.pointer (some ⟨g741, 0, none⟩), .int .i64 16] ?_; (with_reducible refine (spec_l6Rd_pick.calls k g741 t739 t748 16 t750 t751 w _ ?side1 ?side2 A14.out).mono ?_); (case side1 => repeat (first | (with_reducible first | exact HI741.out | apply IsS70.alloc | apply IsS70.drewN | apply IsS70.drew | apply IsS70.set_1 | refine IsS70.far ?_ NB741_738.out _ | refine IsS70.far ?_ NB741_749.out _) | exact HI741.out)); (case side2 => repeat (first | (with_reducible first | exact HB.out | apply below_alloc | apply pw_below_drewN | apply below_drew1 | refine below_set ?_ (IsS70.ge HI741.out) | refine below_set ?_ GE738.out | refine below_set ?_ GE749.out) | exact HB.out)); rintro e w16 ⟨rfl, hi, hb, hk⟩; refine ⟨_, rfl, ?_⟩; replace BK738 := Aside0.mk (KeepBut.blk hk (g' := gb738) (o := .cells #[.slice none 0 0, .slice none 0 0] 25 (0, 0)) (kF BK738) NB738_741.out (by simp)); replace HO744 := Aside0.mk (Kd.Q_mono (Kd.Q_keep (IsS70.apartQ (show IsS70 w _ g741 t739 t748 from by repeat (first | (with_reducible first | exact HI741.out | apply IsS70.alloc | apply IsS70.drewN | apply IsS70.drew | apply IsS70.set_1 | refine IsS70.far ?_ NB741_738.out _ | refine IsS70.far ?_ NB741_749.out _) | exact HI741.out)) (qT (Kd.Q_mono (qF gb749 1 (qF gb749 0 (Kd.Q_types HO744.out BK749.out (by decide)) (.slice Ao9 t742.length co9)) (.slice Ao13 t745.length co13)) (fun _ h_ => h_.1))) (by decide)) hk (fun _ h => h.2)) (fun _ h => h.1)); replace HO747 := Aside0.mk (Kd.R_mono (Kd.R_keep (IsS70.apart (show IsS70 w _ g741 t739 t748 from by repeat (first | (with_reducible first | exact HI741.out | apply IsS70.alloc | apply IsS70.drewN | apply IsS70.drew | apply IsS70.set_1 | refine IsS70.far ?_ NB741_738.out _ | refine IsS70.far ?_ NB741_749.out _) | exact HI741.out)) (rT (Kd.R_mono (rF gb749 1 (rF gb749 0 (rY HO747 BK749) (.slice Ao9 t742.length co9)) (.slice Ao13 t745.length co13)) (fun _ h_ => h_.1))) (by decide)) hk (fun _ h => h.2)) (fun _ h => h.1)); replace BK749 := Aside0.mk (KeepBut.blk hk (g' := gb749) (o := .cells #[.slice Ao9 t742.length co9, .slice Ao13 t745.length co13] 25 (0, 0)) (by (with_reducible repeat (first | refine blk_drewN ?_ _ | refine blk_drew ?_ | refine blk_alloc ?_ _)); refine blk_put (cs := #[.slice Ao9 t742.length co9, .slice none 0 0]) ?_ 1 _ rfl; (with_reducible repeat (first | refine blk_drewN ?_ _ | refine blk_drew ?_ | refine blk_alloc ?_ _)); refine blk_put (cs := #[.slice none 0 0, .slice none 0 0]) ?_ 0 _ rfl; (with_reducible repeat (first | refine blk_drewN ?_ _ | refine blk_drew ?_ | refine blk_alloc ?_ _)); exact BK749.out) NB749_741.out (by simp)); replace HB := Aside0.mk (hb); replace HI741 := Aside0.mk (hi); (try clear hb); (try clear hb2); (try clear hk); (try clear hi)))
   go_meet
   case rel => exact ⟨_, (true), (t751), eS, H', ⟨by first | omega | exact Nat.le_refl _⟩, ⟨qP HO744⟩, ⟨rP HO747⟩, ⟨kP BK738⟩, ⟨kP BK749⟩, ⟨by repeat (first | (with_reducible first | exact HI741.out | apply IsS70.alloc | apply IsS70.drewN | apply IsS70.drew | apply IsS70.set_1 | refine IsS70.far ?_ NB741_738.out _ | refine IsS70.far ?_ NB741_749.out _) | exact HI741.out)⟩, ⟨by repeat (first | (with_reducible first | exact HB.out | apply below_alloc | apply pw_below_drewN | apply below_drew1 | refine below_set ?_ (IsS70.ge HI741.out) | refine below_set ?_ GE738.out | refine below_set ?_ GE749.out) | exact HB.out)⟩⟩
  rw [if_neg c15] at H
  have c15b0 : (t750 == 0) = false := beq_eq_false_iff_ne.mpr c15
  have c15b1 : (t750 != 0) = true := bne_iff_ne.mpr c15
  (first | rw [c15b0] | (simp only [i64_w, i32_w]; rw [c15b0]) | skip)
  have H' := Aside0.mk H
  clear H
  go_wp2_with (first | ((with_reducible refine gate_callee (f := 55) rfl ?_); refine gL (some 11) Try.func55 #[.pointer (some ⟨g741, 0, none⟩), .int .i64 16] ?_; (with_reducible refine (spec_l6Rd_pick.calls k g741 t739 t748 16 t750 t751 w _ ?side1 ?side2 A14.out).mono ?_); (case side1 => repeat (first | (with_reducible first | exact HI741.out | apply IsS70.alloc | apply IsS70.drewN | apply IsS70.drew | apply IsS70.set_1 | refine IsS70.far ?_ NB741_738.out _ | refine IsS70.far ?_ NB741_749.out _) | exact HI741.out)); (case side2 => repeat (first | (with_reducible first | exact HB.out | apply below_alloc | apply pw_below_drewN | apply below_drew1 | refine below_set ?_ (IsS70.ge HI741.out) | refine below_set ?_ GE738.out | refine below_set ?_ GE749.out) | exact HB.out)); rintro e w17 ⟨rfl, hi, hb, hk⟩; refine ⟨_, rfl, ?_⟩; replace BK738 := Aside0.mk (KeepBut.blk hk (g' := gb738) (o := .cells #[.slice none 0 0, .slice none 0 0] 25 (0, 0)) (kF BK738) NB738_741.out (by simp)); replace HO744 := Aside0.mk (Kd.Q_mono (Kd.Q_keep (IsS70.apartQ (show IsS70 w _ g741 t739 t748 from by repeat (first | (with_reducible first | exact HI741.out | apply IsS70.alloc | apply IsS70.drewN | apply IsS70.drew | apply IsS70.set_1 | refine IsS70.far ?_ NB741_738.out _ | refine IsS70.far ?_ NB741_749.out _) | exact HI741.out)) (qT (Kd.Q_mono (qF gb749 1 (qF gb749 0 (Kd.Q_types HO744.out BK749.out (by decide)) (.slice Ao9 t742.length co9)) (.slice Ao13 t745.length co13)) (fun _ h_ => h_.1))) (by decide)) hk (fun _ h => h.2)) (fun _ h => h.1)); replace HO747 := Aside0.mk (Kd.R_mono (Kd.R_keep (IsS70.apart (show IsS70 w _ g741 t739 t748 from by repeat (first | (with_reducible first | exact HI741.out | apply IsS70.alloc | apply IsS70.drewN | apply IsS70.drew | apply IsS70.set_1 | refine IsS70.far ?_ NB741_738.out _ | refine IsS70.far ?_ NB741_749.out _) | exact HI741.out)) (rT (Kd.R_mono (rF gb749 1 (rF gb749 0 (rY HO747 BK749) (.slice Ao9 t742.length co9)) (.slice Ao13 t745.length co13)) (fun _ h_ => h_.1))) (by decide)) hk (fun _ h => h.2)) (fun _ h => h.1)); replace BK749 := Aside0.mk (KeepBut.blk hk (g' := gb749) (o := .cells #[.slice Ao9 t742.length co9, .slice Ao13 t745.length co13] 25 (0, 0)) (by (with_reducible repeat (first | refine blk_drewN ?_ _ | refine blk_drew ?_ | refine blk_alloc ?_ _)); refine blk_put (cs := #[.slice Ao9 t742.length co9, .slice none 0 0]) ?_ 1 _ rfl; (with_reducible repeat (first | refine blk_drewN ?_ _ | refine blk_drew ?_ | refine blk_alloc ?_ _)); refine blk_put (cs := #[.slice none 0 0, .slice none 0 0]) ?_ 0 _ rfl; (with_reducible repeat (first | refine blk_drewN ?_ _ | refine blk_drew ?_ | refine blk_alloc ?_ _)); exact BK749.out) NB749_741.out (by simp)); replace HB := Aside0.mk (hb); replace HI741 := Aside0.mk (hi); (try clear hb); (try clear hb2); (try clear hk); (try clear hi); have hnb18 := NB749_738.out; have hnc18 := NB738_749.out; have hnb19 := NB749_741.out; have hnc19 := NB741_749.out; have hcz20_0 := zc0 BK749; have hcz20_1 := zc1 BK749; have hfz20_0 := blk_frozen BK749.out 0; have hfz20_1 := blk_frozen BK749.out 1))
  go_meet
  case rel => exact ⟨_, (((t742.length : Int) == 0)), (t751), eS, H', ⟨by first | omega | exact Nat.le_refl _⟩, ⟨qP HO744⟩, ⟨rP HO747⟩, ⟨kP BK738⟩, ⟨kP BK749⟩, ⟨by repeat (first | (with_reducible first | exact HI741.out | apply IsS70.alloc | apply IsS70.drewN | apply IsS70.drew | apply IsS70.set_1 | refine IsS70.far ?_ NB741_738.out _ | refine IsS70.far ?_ NB741_749.out _) | exact HI741.out)⟩, ⟨by repeat (first | (with_reducible first | exact HB.out | apply below_alloc | apply pw_below_drewN | apply below_drew1 | refine below_set ?_ (IsS70.ge HI741.out) | refine below_set ?_ GE738.out | refine below_set ?_ GE749.out) | exact HB.out)⟩⟩
 case rest =>
  clear HC4
  try clear c1
  try clear p2
  try clear c3
  try clear c5
  try clear c10
  try clear c11
  try clear c15
  try clear c15b0
  try clear c15b1
  try clear c18
  try clear c19
  try clear hcz12_0
  try clear hcz12_1
  try clear hcz20_0
  try clear hcz20_1
  try clear hfz12_0
  try clear hfz12_1
  try clear hfz20_0
  try clear hfz20_1
  obtain ⟨kq, x18_3, x742001_3, rfl, HA, HJ3, HO_750000, HO_750001, BK738, BK749, HI741, HB⟩ := hcut
  cases kq with
  | zero => exact absurd HA.out (by simp [spec_DrawMapRename.j0])
  | succ kj3 =>
   have H := HA.out
   clear HA
   simp only [spec_DrawMapRename.j0] at H
   by_cases c21 : x18_3 = true
   ·subst c21
    replace H : ((spec_l91Some.f kj3 t739 x742001_3 10).bind fun bt752 => (some (t742, t745, bt752.1))) = some (r1, r2, r3) := by rw [if_pos rfl] at H; exact H
    replace H := Option.bind_eq_some_iff.mp H
    obtain ⟨⟨t752, t755⟩, A220, H⟩ := H
    replace H : (some (t742, t745, t752)) = some (r1, r2, r3) := H
    have A22 := Aside0.mk A220
    clear A220
    simp only [Option.some.injEq, Prod.mk.injEq] at H
    obtain ⟨rfl, rfl, rfl⟩ := H
    try go_wp2
    replace HO_750000 := Aside0.mk (Kd.Q_drew HO_750000.out)
    replace HO_750001 := Aside0.mk (Kd.R_drew HO_750001.out)
    replace BK738 := Aside0.mk (blk_drew BK738.out)
    replace BK749 := Aside0.mk (blk_drew BK749.out)
    replace HI741 := Aside0.mk (IsS70.drew HI741.out)
    replace HB := Aside0.mk (below_drew1 HB.out)
    refine start_ (n := 5) (S := fun w' => w'.cell? ⟨gb749, 0, none⟩ = some (.slice Ao9 t742.length co9) ∧ w'.cell? ⟨gb749, 1, none⟩ = some (.slice Ao13 t745.length co13)) (ds := []) #[false, false, false, false, false] (by kernel_rfl) rfl rfl ⟨(blk_cell BK749.out 0).trans rfl, (blk_cell BK749.out 1).trans rfl⟩ (fun hHeld => ?_)
    generalize wc.drew = w23 at HO_750000 HO_750001 BK738 BK749 HI741 HB hHeld ⊢
    refine pure_ (i := 1) (N := some 20) (v := ?_) (a' := ?_) #[false, true, false, false, false] rfl rfl (by kernel_rfl) (fun _ _ _ h => h) (Or.inl ⟨by rfl, ?_⟩) ?_ ?_
    rotate_left
    ·intro w'
     go_simp
     with_reducible rfl
    rotate_left
    ·simp only [Act.put, List.setIfInBounds_toArray, List.set_cons_zero, List.set_cons_succ, i64_w, i32_w]
     rfl
    refine take_ (i := 0) (N := some 19) (v := ?_) (a' := ?_) #[true, true, false, false, false] rfl rfl (by kernel_rfl) (fun _ _ _ h => h) (Or.inl ⟨by rfl, ?_⟩) hHeld ?_ ?_
    rotate_left
    ·rintro w' ⟨s0, s1⟩
     go_simp
     with_reducible rfl
    rotate_left
    ·simp only [Act.put, List.setIfInBounds_toArray, List.set_cons_zero, List.set_cons_succ, i64_w, i32_w]
     rfl
    refine one_ (i := 2) (N := some 21) #[true, true, true, false, false] rfl rfl (by kernel_rfl) (by decide) (fun K hK => ?_)
    refine goes_ Try.func56 (by kernel_rfl) rfl #[.pointer (some ⟨g741, 0, none⟩), .int .i64 10] (by rfl) rfl rfl (by (try simp only [List.map_toArray, List.map_cons, List.map_nil]); first | done | rfl | (simp only [List.length_drop, List.length_take]; rfl)) ?_
    with_reducible refine (spec_l91Some.calls kj3 g741 t739 x742001_3 10 t752 t755 w _ ?side1 ?side2 A22.out).mono ?_
    (case side1 => repeat (first | (with_reducible first | exact HI741.out | apply IsS70.alloc | apply IsS70.drewN | apply IsS70.drew | apply IsS70.set_1 | refine IsS70.far ?_ NB741_738.out _ | refine IsS70.far ?_ NB741_749.out _) | exact HI741.out))
    (case side2 => repeat (first | (with_reducible first | exact HB.out | apply below_alloc | apply pw_below_drewN | apply below_drew1 | refine below_set ?_ (IsS70.ge HI741.out) | refine below_set ?_ GE738.out | refine below_set ?_ GE749.out) | exact HB.out))
    rintro e w24 ⟨v753, rfl, ho0, hi, hb, hk⟩
    refine ⟨_, rfl, ?_⟩
    replace BK738 := Aside0.mk (KeepBut.blk hk (g' := gb738) (o := .cells #[.slice none 0 0, .slice none 0 0] 25 (0, 0)) (kP BK738) NB738_741.out (by simp))
    replace BK749 := Aside0.mk (KeepBut.blk hk (g' := gb749) (o := .cells #[.slice Ao9 t742.length co9, .slice Ao13 t745.length co13] 25 (0, 0)) (kP BK749) NB749_741.out (by simp))
    have HO754 := Aside0.mk (Kd.R_lower (Kd.R_new' (Kd.R_new' ho0 (Kd.Q_lt (qP HO_750000))) (Kd.R_lt (rP HO_750001))) (below_size (by repeat (first | (with_reducible first | exact HB.out | apply below_alloc | apply pw_below_drewN | apply below_drew1 | refine below_set ?_ (IsS70.ge HI741.out) | refine below_set ?_ GE738.out | refine below_set ?_ GE749.out) | exact HB.out))))
    replace HO_750000 := Aside0.mk (Kd.Q_mono (Kd.Q_told (Kd.Q_oldK (IsS70.apartQ (show IsS70 w _ g741 t739 x742001_3 from by repeat (first | (with_reducible first | exact HI741.out | apply IsS70.alloc | apply IsS70.drewN | apply IsS70.drew | apply IsS70.set_1 | refine IsS70.far ?_ NB741_738.out _ | refine IsS70.far ?_ NB741_749.out _) | exact HI741.out)) (qP HO_750000) (by decide)) hk) (Kd.R_base ho0)) (fun _ h_ => h_.1))
    replace HO_750001 := Aside0.mk (Kd.R_mono (Kd.R_told (Kd.R_oldK (IsS70.apart (show IsS70 w _ g741 t739 x742001_3 from by repeat (first | (with_reducible first | exact HI741.out | apply IsS70.alloc | apply IsS70.drewN | apply IsS70.drew | apply IsS70.set_1 | refine IsS70.far ?_ NB741_738.out _ | refine IsS70.far ?_ NB741_749.out _) | exact HI741.out)) (rP HO_750001) (by decide)) hk) (Kd.R_base ho0)) (fun _ h_ => h_.1))
    replace HB := Aside0.mk (hb)
    replace HI741 := Aside0.mk (hi)
    (try clear hb)
    (try clear hb2)
    (try clear hk)
    (try clear hi)
    (try clear ho0)
    refine hK.out _ _ ⟨(blk_cell BK749.out 0).trans rfl, (blk_cell BK749.out 1).trans rfl⟩ (fun hHeld => ?_)
    clear hK K
    refine norm_ (a' := ?_) ?_ ?_
    rotate_left
    ·show Act.put _ (some 21) _ = _
     simp only [Act.put, List.setIfInBounds_toArray, List.set_cons_zero, List.set_cons_succ, i64_w, i32_w]
     rfl
    refine one_ (i := 3) (N := none) #[true, true, true, true, false] rfl rfl (by kernel_rfl) (by decide) (fun K hK => ?_)
    have hs25 : w24.cell? ⟨gb738, 0, none⟩ = some (.slice none 0 0) := (blk_cell BK738.out 0).trans rfl
    have hfs25 := blk_frozen BK738.out 0
    have hns25_1 := NB749_738.out
    have hms25_1 := NB738_749.out
    have hs26 : w24.cell? ⟨gb738, 1, none⟩ = some (.slice none 0 0) := (blk_cell BK738.out 1).trans rfl
    have hfs26 := blk_frozen BK738.out 1
    have hns26_1 := NB749_738.out
    have hms26_1 := NB738_749.out
    refine skip_ (w1 := ?_) (by rfl) rfl ?_ ?_
    rotate_left
    ·go_simp
     rfl
    refine hK.out _ _ ⟨((cell_far (p := ⟨gb738, _, none⟩) NB749_738.out _).trans (((cell_far (p := ⟨gb738, _, none⟩) NB749_738.out _).trans (hHeld.1)))), ((cell_far (p := ⟨gb738, _, none⟩) NB749_738.out _).trans (((cell_far (p := ⟨gb738, _, none⟩) NB749_738.out _).trans (hHeld.2))))⟩ (fun hHeld => ?_)
    clear hK K
    refine pure_ (i := 4) (N := some 3) (v := ?_) (a' := ?_) #[true, true, true, true, true] rfl rfl (by kernel_rfl) (fun _ _ _ h => h) (Or.inl ⟨by rfl, ?_⟩) ?_ ?_
    rotate_left
    ·intro w'
     go_simp
     with_reducible rfl
    rotate_left
    ·simp only [Act.put, List.setIfInBounds_toArray, List.set_cons_zero, List.set_cons_succ, i64_w, i32_w]
     rfl
    refine done_ (by kernel_rfl) ?_
    try go_wp2
    refine bodyPost_ret (results_ct rfl _ _ gb738 25 #[.slice Ao9 t742.length co9, .slice Ao13 t745.length co13] (0, 0) _ rfl (by (with_reducible repeat (first | refine blk_drewN ?_ _ | refine blk_drew ?_ | refine blk_alloc ?_ _)); refine blk_put (cs := #[.slice Ao9 t742.length co9, .slice none 0 0]) ?_ 1 _ rfl; (with_reducible repeat (first | refine blk_drewN ?_ _ | refine blk_drew ?_ | refine blk_alloc ?_ _)); refine blk_put (cs := #[.slice none 0 0, .slice none 0 0]) ?_ 0 _ rfl; (with_reducible repeat (first | refine blk_drewN ?_ _ | refine blk_drew ?_ | refine blk_alloc ?_ _)); exact BK738.out) Try.underlying25 rfl (by kernel_rfl)) rfl ?_
    exact ⟨_, _, _, eR, qT (Kd.Q_mono (qF gb738 1 (qF gb738 0 (Kd.Q_types HO_750000.out BK738.out (by decide)) (.slice Ao9 t742.length co9)) (.slice Ao13 t745.length co13)) (fun _ hk => ⟨hk.1.1, hk.1.2⟩)), rT (Kd.R_mono (rF gb738 1 (rF gb738 0 (rY HO_750001 BK738) (.slice Ao9 t742.length co9)) (.slice Ao13 t745.length co13)) (fun _ hk => ⟨hk.1.1, hk.1.2⟩)), rT (Kd.R_mono (rF gb738 1 (rF gb738 0 (rY HO754 BK738) (.slice Ao9 t742.length co9)) (.slice Ao13 t745.length co13)) (fun _ hk => ⟨hk.1.1.2, hk.1.2⟩)), by repeat (first | (with_reducible first | exact HB.out | apply below_alloc | apply pw_below_drewN | apply below_drew1 | refine below_set ?_ (IsS70.ge HI741.out) | refine below_set ?_ GE738.out | refine below_set ?_ GE749.out) | exact HB.out)⟩
   ·replace c21 := Bool.eq_false_iff.mpr c21
    subst c21
    replace H : ((spec_l91Perm.f kj3 t739 x742001_3 (t742.length : Int)).bind fun bt756 => (some (t742, t745, bt756.1))) = some (r1, r2, r3) := by rw [if_neg (show ¬ (false = true) by decide)] at H; exact H
    replace H := Option.bind_eq_some_iff.mp H
    obtain ⟨⟨t756, t759⟩, A270, H⟩ := H
    replace H : (some (t742, t745, t756)) = some (r1, r2, r3) := H
    have A27 := Aside0.mk A270
    clear A270
    simp only [Option.some.injEq, Prod.mk.injEq] at H
    obtain ⟨rfl, rfl, rfl⟩ := H
    try go_wp2
    replace HO_750000 := Aside0.mk (Kd.Q_drew HO_750000.out)
    replace HO_750001 := Aside0.mk (Kd.R_drew HO_750001.out)
    replace BK738 := Aside0.mk (blk_drew BK738.out)
    replace BK749 := Aside0.mk (blk_drew BK749.out)
    replace HI741 := Aside0.mk (IsS70.drew HI741.out)
    replace HB := Aside0.mk (below_drew1 HB.out)
    refine start_ (n := 8) (S := fun w' => w'.cell? ⟨gb749, 0, none⟩ = some (.slice Ao9 t742.length co9) ∧ w'.cell? ⟨gb749, 1, none⟩ = some (.slice Ao13 t745.length co13)) (ds := []) #[false, false, false, false, false, false, false, false] (by kernel_rfl) rfl rfl ⟨(blk_cell BK749.out 0).trans rfl, (blk_cell BK749.out 1).trans rfl⟩ (fun hHeld => ?_); refine with_tabW spec_DrawMapRename.tab5 spec_DrawMapRename.bits5 (fun HT_ HW_ => ?_)
    generalize wc.drew = w28 at HO_750000 HO_750001 BK738 BK749 HI741 HB hHeld ⊢
    refine pure_ (i := 1) (N := some 23) (v := ?_) (a' := ?_) #[false, true, false, false, false, false, false, false] rfl rfl (any_of HT_.out (by kernel_rfl)) (fun _ _ _ h => h) (Or.inl ⟨by rfl, ?_⟩) ?_ ?_
    rotate_left
    ·intro w'
     go_simp
     with_reducible rfl
    rotate_left
    ·simp only [Act.put, List.setIfInBounds_toArray, List.set_cons_zero, List.set_cons_succ, i64_w, i32_w]
     rfl
    refine pure_ (i := 2) (N := some 24) (v := ?_) (a' := ?_) #[false, true, true, false, false, false, false, false] rfl rfl (any_of HT_.out (by kernel_rfl)) (fun _ _ _ h => h) (Or.inl ⟨by rfl, ?_⟩) ?_ ?_
    rotate_left
    ·intro w'
     go_simp
     with_reducible rfl
    rotate_left
    ·simp only [Act.put, List.setIfInBounds_toArray, List.set_cons_zero, List.set_cons_succ, i64_w, i32_w]
     rfl
    refine take_ (i := 0) (N := some 22) (v := ?_) (a' := ?_) #[true, true, true, false, false, false, false, false] rfl rfl (take_ofW HT_.out HW_.out (by kernel_rfl)) (fun _ _ _ h => h) (Or.inl ⟨by rfl, ?_⟩) hHeld ?_ ?_
    rotate_left
    ·rintro w' ⟨s0, s1⟩
     go_simp
     with_reducible rfl
    rotate_left
    ·simp only [Act.put, List.setIfInBounds_toArray, List.set_cons_zero, List.set_cons_succ, i64_w, i32_w]
     rfl
    refine take_ (i := 3) (N := some 25) (v := ?_) (a' := ?_) #[true, true, true, true, false, false, false, false] rfl rfl (take_ofW HT_.out HW_.out (by kernel_rfl)) (fun _ _ _ h => h) (Or.inl ⟨by rfl, ?_⟩) hHeld ?_ ?_
    rotate_left
    ·rintro w' ⟨s0, s1⟩
     go_simp
     with_reducible rfl
    rotate_left
    ·simp only [Act.put, List.setIfInBounds_toArray, List.set_cons_zero, List.set_cons_succ, i64_w, i32_w]
     rfl
    refine pure_ (i := 4) (N := some 26) (v := ?_) (a' := ?_) #[true, true, true, true, true, false, false, false] rfl rfl (any_of HT_.out (by kernel_rfl)) (fun _ _ _ h => h) (Or.inl ⟨by rfl, ?_⟩) ?_ ?_
    rotate_left
    ·intro w'
     go_simp
     with_reducible rfl
    rotate_left
    ·simp only [Act.put, List.setIfInBounds_toArray, List.set_cons_zero, List.set_cons_succ, i64_w, i32_w]
     rfl
    refine one_ (i := 5) (N := some 27) #[true, true, true, true, true, true, false, false] rfl rfl (one_of HT_.out (by kernel_rfl)) (by decide) (fun K hK => ?_)
    refine goes_ Try.func57 (by kernel_rfl) rfl #[.pointer (some ⟨g741, 0, none⟩), .int .i64 (t742.length : Int)] (by rfl) rfl rfl (by (try simp only [List.map_toArray, List.map_cons, List.map_nil]); first | done | rfl | (simp only [List.length_drop, List.length_take]; rfl)) ?_
    with_reducible refine (spec_l91Perm.calls kj3 g741 t739 x742001_3 (t742.length : Int) t756 t759 w _ ?side1 ?side2 A27.out).mono ?_
    (case side1 => repeat (first | (with_reducible first | exact HI741.out | apply IsS70.alloc | apply IsS70.drewN | apply IsS70.drew | apply IsS70.set_1 | refine IsS70.far ?_ NB741_738.out _ | refine IsS70.far ?_ NB741_749.out _) | exact HI741.out))
    (case side2 => repeat (first | (with_reducible first | exact HB.out | apply below_alloc | apply pw_below_drewN | apply below_drew1 | refine below_set ?_ (IsS70.ge HI741.out) | refine below_set ?_ GE738.out | refine below_set ?_ GE749.out) | exact HB.out))
    rintro e w29 ⟨v757, rfl, ho0, hi, hb, hk⟩
    refine ⟨_, rfl, ?_⟩
    replace BK738 := Aside0.mk (KeepBut.blk hk (g' := gb738) (o := .cells #[.slice none 0 0, .slice none 0 0] 25 (0, 0)) (kP BK738) NB738_741.out (by simp))
    replace BK749 := Aside0.mk (KeepBut.blk hk (g' := gb749) (o := .cells #[.slice Ao9 t742.length co9, .slice Ao13 t745.length co13] 25 (0, 0)) (kP BK749) NB749_741.out (by simp))
    have HO758 := Aside0.mk (Kd.R_lower (Kd.R_new' (Kd.R_new' ho0 (Kd.Q_lt (qP HO_750000))) (Kd.R_lt (rP HO_750001))) (below_size (by repeat (first | (with_reducible first | exact HB.out | apply below_alloc | apply pw_below_drewN | apply below_drew1 | refine below_set ?_ (IsS70.ge HI741.out) | refine below_set ?_ GE738.out | refine below_set ?_ GE749.out) | exact HB.out))))
    replace HO_750000 := Aside0.mk (Kd.Q_mono (Kd.Q_told (Kd.Q_oldK (IsS70.apartQ (show IsS70 w _ g741 t739 x742001_3 from by repeat (first | (with_reducible first | exact HI741.out | apply IsS70.alloc | apply IsS70.drewN | apply IsS70.drew | apply IsS70.set_1 | refine IsS70.far ?_ NB741_738.out _ | refine IsS70.far ?_ NB741_749.out _) | exact HI741.out)) (qP HO_750000) (by decide)) hk) (Kd.R_base ho0)) (fun _ h_ => h_.1))
    replace HO_750001 := Aside0.mk (Kd.R_mono (Kd.R_told (Kd.R_oldK (IsS70.apart (show IsS70 w _ g741 t739 x742001_3 from by repeat (first | (with_reducible first | exact HI741.out | apply IsS70.alloc | apply IsS70.drewN | apply IsS70.drew | apply IsS70.set_1 | refine IsS70.far ?_ NB741_738.out _ | refine IsS70.far ?_ NB741_749.out _) | exact HI741.out)) (rP HO_750001) (by decide)) hk) (Kd.R_base ho0)) (fun _ h_ => h_.1))
    replace HB := Aside0.mk (hb)
    replace HI741 := Aside0.mk (hi)
    (try clear hb)
    (try clear hb2)
    (try clear hk)
    (try clear hi)
    (try clear ho0)
    refine hK.out _ _ ⟨(blk_cell BK749.out 0).trans rfl, (blk_cell BK749.out 1).trans rfl⟩ (fun hHeld => ?_)
    clear hK K
    refine norm_ (a' := ?_) ?_ ?_
    rotate_left
    ·show Act.put _ (some 27) _ = _
     simp only [Act.put, List.setIfInBounds_toArray, List.set_cons_zero, List.set_cons_succ, i64_w, i32_w]
     rfl
    refine one_ (i := 6) (N := none) #[true, true, true, true, true, true, true, false] rfl rfl (one_of HT_.out (by kernel_rfl)) (by decide) (fun K hK => ?_)
    have hs30 : w29.cell? ⟨gb738, 0, none⟩ = some (.slice none 0 0) := (blk_cell BK738.out 0).trans rfl
    have hfs30 := blk_frozen BK738.out 0
    have hns30_1 := NB749_738.out
    have hms30_1 := NB738_749.out
    have hs31 : w29.cell? ⟨gb738, 1, none⟩ = some (.slice none 0 0) := (blk_cell BK738.out 1).trans rfl
    have hfs31 := blk_frozen BK738.out 1
    have hns31_1 := NB749_738.out
    have hms31_1 := NB738_749.out
    refine skip_ (w1 := ?_) (by rfl) rfl ?_ ?_
    rotate_left
    ·go_simp
     rfl
    refine hK.out _ _ ⟨((cell_far (p := ⟨gb738, _, none⟩) NB749_738.out _).trans (((cell_far (p := ⟨gb738, _, none⟩) NB749_738.out _).trans (hHeld.1)))), ((cell_far (p := ⟨gb738, _, none⟩) NB749_738.out _).trans (((cell_far (p := ⟨gb738, _, none⟩) NB749_738.out _).trans (hHeld.2))))⟩ (fun hHeld => ?_)
    clear hK K
    refine pure_ (i := 7) (N := some 3) (v := ?_) (a' := ?_) #[true, true, true, true, true, true, true, true] rfl rfl (any_of HT_.out (by kernel_rfl)) (fun _ _ _ h => h) (Or.inl ⟨by rfl, ?_⟩) ?_ ?_
    rotate_left
    ·intro w'
     go_simp
     with_reducible rfl
    rotate_left
    ·simp only [Act.put, List.setIfInBounds_toArray, List.set_cons_zero, List.set_cons_succ, i64_w, i32_w]
     rfl
    refine done_ (done_of HT_.out (by kernel_rfl)) ?_
    try go_wp2
    refine bodyPost_ret (results_ct rfl _ _ gb738 25 #[.slice Ao9 t742.length co9, .slice Ao13 t745.length co13] (0, 0) _ rfl (by (with_reducible repeat (first | refine blk_drewN ?_ _ | refine blk_drew ?_ | refine blk_alloc ?_ _)); refine blk_put (cs := #[.slice Ao9 t742.length co9, .slice none 0 0]) ?_ 1 _ rfl; (with_reducible repeat (first | refine blk_drewN ?_ _ | refine blk_drew ?_ | refine blk_alloc ?_ _)); refine blk_put (cs := #[.slice none 0 0, .slice none 0 0]) ?_ 0 _ rfl; (with_reducible repeat (first | refine blk_drewN ?_ _ | refine blk_drew ?_ | refine blk_alloc ?_ _)); exact BK738.out) Try.underlying25 rfl (by kernel_rfl)) rfl ?_
    exact ⟨_, _, _, eR, qT (Kd.Q_mono (qF gb738 1 (qF gb738 0 (Kd.Q_types HO_750000.out BK738.out (by decide)) (.slice Ao9 t742.length co9)) (.slice Ao13 t745.length co13)) (fun _ hk => ⟨hk.1.1, hk.1.2⟩)), rT (Kd.R_mono (rF gb738 1 (rF gb738 0 (rY HO_750001 BK738) (.slice Ao9 t742.length co9)) (.slice Ao13 t745.length co13)) (fun _ hk => ⟨hk.1.1, hk.1.2⟩)), rT (Kd.R_mono (rF gb738 1 (rF gb738 0 (rY HO758 BK738) (.slice Ao9 t742.length co9)) (.slice Ao13 t745.length co13)) (fun _ hk => ⟨hk.1.1.2, hk.1.2⟩)), by repeat (first | (with_reducible first | exact HB.out | apply below_alloc | apply pw_below_drewN | apply below_drew1 | refine below_set ?_ (IsS70.ge HI741.out) | refine below_set ?_ GE738.out | refine below_set ?_ GE749.out) | exact HB.out)⟩

end Go.Proofs.Ytihabnfccgjfbaa.F
