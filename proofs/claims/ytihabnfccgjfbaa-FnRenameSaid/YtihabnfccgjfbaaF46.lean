/- Contracts: what these Go functions return. -/
import Derived.Test.YtihabnfccgjfbaaF0
import Derived.Test.YtihabnfccgjfbaaF24
import Derived.Test.YtihabnfccgjfbaaF27
import Derived.Test.YtihabnfccgjfbaaF37
import Derived.Test.YtihabnfccgjfbaaF40
import Derived.Test.YtihabnfccgjfbaaF42
import Derived.Test.YtihabnfccgjfbaaF45
namespace Go.Proofs.Ytihabnfccgjfbaa.F
open Go.RowKit Go.Proofs.YtihabnfccgjfbaaW.PrintWords Go.Proofs.YtihabnfccgjfbaaW.PrintLast Go.Proofs.YtihabnfccgjfbaaW.PrintMore
attribute [local go_sem] max2_int min2_int max_two min_two max_three min_three max_four min_four
set_option linter.unusedVariables false
set_option linter.unusedSimpArgs false

/-! ### laws_FnRename: function 7 -/
mutual
def laws_FnRename.j0 : Nat → List Int → List Int → Bool → Option (Bool)
 | 0, _, _, _ => none
 | k + 1, x0, x1, x27 => if x27 = true then (some true) else ((spec_DrawMapRename.f k x0).bind fun bt851 => ((impl_MapRename.f k bt851.1 bt851.2.1 bt851.2.2).bind fun bt861 => ((spec_MapRename.f k bt851.1 bt851.2.1 bt851.2.2).bind fun bt869 => (if (bt861.2.2 != bt869.2.2) = true then (laws_FnRename.j1 k x1 bt851.2.2 bt861.2.2 bt869.2.2 true bt851.1 bt851.2.1 bt861.1 bt861.2.1 bt869.1 bt869.2.1) else ((laws_sameMap.f k bt861.1 bt861.2.1 bt869.1 bt869.2.1).bind fun t877 => (if t877 = true then (laws_FnRename.j1 k x1 bt851.2.2 bt861.2.2 bt869.2.2 (!bt861.2.2) bt851.1 bt851.2.1 bt861.1 bt861.2.1 bt869.1 bt869.2.1) else (laws_FnRename.j1 k x1 bt851.2.2 bt861.2.2 bt869.2.2 true bt851.1 bt851.2.1 bt861.1 bt861.2.1 bt869.1 bt869.2.1)))))))
def laws_FnRename.j1 : Nat → List Int → List Int → Bool → Bool → Bool → List Int → List Int → List Int → List Int → List Int → List Int → Option (Bool)
 | 0, _, _, _, _, _, _, _, _, _, _, _ => none
 | k + 1, x1, x6, x8, x10, x57, x861000, x861001, x869000, x869001, x877000, x877001 => if x57 = true then (if (x8 == x10) = true then ((laws_sameMap.f k x869000 x869001 x877000 x877001).bind fun t878 => (some t878)) else (some false)) else ((impl_PermBack.f k x6).bind fun bt879 => ((impl_MapRename.f k x869000 x869001 bt879.1).bind fun bt883 => (if (x861000.length : Int) = 0 then (none) else ((impl_MapForm.f k x861000 x861001 ((x1.length : Int) % (x861000.length : Int))).bind fun bt891 => (if 0 ≤ ((x1.length : Int) % (x861000.length : Int)) then (if ((x1.length : Int) % (x861000.length : Int)) < (x6.length : Int) then ((impl_MapForm.f k x869000 x869001 (rd x6 ((x1.length : Int) % (x861000.length : Int)))).bind fun bt900 => (if bt879.2 = true then (if bt883.2.2 = true then (if bt891.2.2 = true then (if bt900.2.2 = true then ((laws_sameMap.f k bt883.1 bt883.2.1 x861000 x861001).bind fun t908 => (if t908 = true then ((laws_sameMap.f k bt891.1 bt891.2.1 bt900.1 bt900.2.1).bind fun t909 => (if t909 = true then ((impl_MapSame.f k x861000 x861001 x869000 x869001).bind fun t910 => (some t910)) else (some false))) else (some false))) else (some false)) else (some false)) else (some false)) else (some false))) else (none)) else (none))))))
end
def laws_FnRename.f (k : Nat) (l0 : List Int) (l1 : List Int) : Option (Bool) := if (l0.length : Int) > 1048576 then (laws_FnRename.j0 k l0 l1 true) else (laws_FnRename.j0 k l0 l1 (decide ((l1.length : Int) > 1048576)))
def laws_FnRename.T12 : Bool × List (List Nat × List Nat) := (true, [([], []), ([], []), ([], []), ([1, 2], [1, 2]), ([3], [3]), ([0, 4], [0, 4]), ([5], [5]), ([6], [6]), ([6], [6]), ([], []), ([9, 7, 5, 0, 1, 2, 3, 4, 5, 6, 7, 9], [7, 9]), ([8, 10, 0, 1, 2, 3, 4, 5, 6, 7, 8, 9, 10], [8])])
def laws_FnRename.B12 : List Nat := [0, 0, 0, 6, 14, 31, 63, 127, 127, 0, 767, 2047]
theorem laws_FnRename.tab12 : rtab .any (opsOf Try.f7 12) = laws_FnRename.T12 := by kernel_rfl
theorem laws_FnRename.bits12 : waitsOk laws_FnRename.T12.2 laws_FnRename.B12 = true := by kernel_rfl
set_option maxHeartbeats 8000000 in
set_option maxRecDepth 100000 in
theorem laws_FnRename.calls (k : Nat) (A0 : Option Addr) (c0 : Nat) (l0 : List Int) (A1 : Option Addr) (c1 : Nat) (l1 : List Int) (r : Bool) (w : World) (hr0 : Kd.C (Kd.int .u8) w A0 l0.length l0) (hc0 : l0.length ≤ c0) (hr1 : Kd.C (Kd.int .u8) w A1 l1.length l1) (hc1 : l1.length ≤ c1) (hr_ : Aside0 (r = true)) (h : laws_FnRename.f k l0 l1 = some r) :
 Calls Try.prog 7 #[.slice A0 l0.length c0, .slice A1 l1.length c1] w fun e w' => e = .returned (.bool r) ∧ Below w.heap.size w w' := by
 have hu25 := Try.underlying25
 have HR0 := Aside0.mk hr0
 have HC0 := Aside0.mk hc0
 clear hr0 hc0
 have HR1 := Aside0.mk hr1
 have HC1 := Aside0.mk hc1
 clear hr1 hc1
 have HB := Aside0.mk (Below.refl w.heap.size w)
 have H : (if (l0.length : Int) > 1048576 then (laws_FnRename.j0 k l0 l1 true) else (laws_FnRename.j0 k l0 l1 (decide ((l1.length : Int) > 1048576)))) = some r := h
 clear h
 have HC3 := Aside0.mk H
 clear H
 go_enter Try.func7, Try.ntmps7
 go_upto_region 1 with (fail)
 go_cut [27] (fun v27 wc => ∃ (kq : Nat) (x27_2 : Bool), v27 = .bool x27_2 ∧ Aside0 (laws_FnRename.j0 kq l0 l1 x27_2 = some r) ∧ Aside0 (kq ≤ k) ∧ Aside0 (Below w.heap.size w wc))
 case first =>
  have H := HC3.out
  clear HC3
  by_cases c4 : (l0.length : Int) > 1048576
  ·rw [if_pos c4] at H
   have c4b0 : decide (1048576 < (l0.length : Int)) = true := decide_eq_true c4
   have c4b1 : decide (1048576 < l0.length) = true := decide_eq_true (by omega)
   clear c4
   (first | rw [c4b0] | (simp only [i64_w, i32_w]; rw [c4b0]) | skip)
   have H' := Aside0.mk H
   clear H
   go_wp2
   go_meet
   case rel => exact ⟨_, (true), eS, H', ⟨by first | omega | exact Nat.le_refl _⟩, ⟨bP HB⟩⟩
  rw [if_neg c4] at H
  have c4b0 : decide (1048576 < (l0.length : Int)) = false := decide_eq_false c4
  have c4b1 : decide (1048576 < l0.length) = false := decide_eq_false (by omega)
  clear c4
  (first | rw [c4b0] | (simp only [i64_w, i32_w]; rw [c4b0]) | skip)
  have H' := Aside0.mk H
  clear H
  go_wp2
  go_meet
  case rel => exact ⟨_, (decide ((l1.length : Int) > 1048576)), eS, H', ⟨by first | omega | exact Nat.le_refl _⟩, ⟨bP HB⟩⟩
 case rest =>
  clear HC3
  try clear c1
  try clear p2
  try clear c4
  try clear c4b0
  try clear c4b1
  obtain ⟨kq, x27_2, rfl, HA, HJ2, HB⟩ := hcut
  cases kq with
  | zero => exact absurd HA.out (by simp [laws_FnRename.j0])
  | succ kj2 =>
   have H := HA.out
   clear HA
   simp only [laws_FnRename.j0] at H
   by_cases c5 : x27_2 = true
   ·subst c5
    replace H : (some true) = some r := by rw [if_pos rfl] at H; exact H
    obtain rfl := Option.some.inj H
    go_wp2
    go_ret
    exact ⟨eR, bP HB⟩
   ·replace c5 := Bool.eq_false_iff.mpr c5
    subst c5
    replace H : ((spec_DrawMapRename.f kj2 l0).bind fun bt851 => ((impl_MapRename.f kj2 bt851.1 bt851.2.1 bt851.2.2).bind fun bt861 => ((spec_MapRename.f kj2 bt851.1 bt851.2.1 bt851.2.2).bind fun bt869 => (if (bt861.2.2 != bt869.2.2) = true then (laws_FnRename.j1 kj2 l1 bt851.2.2 bt861.2.2 bt869.2.2 true bt851.1 bt851.2.1 bt861.1 bt861.2.1 bt869.1 bt869.2.1) else ((laws_sameMap.f kj2 bt861.1 bt861.2.1 bt869.1 bt869.2.1).bind fun t877 => (if t877 = true then (laws_FnRename.j1 kj2 l1 bt851.2.2 bt861.2.2 bt869.2.2 (!bt861.2.2) bt851.1 bt851.2.1 bt861.1 bt861.2.1 bt869.1 bt869.2.1) else (laws_FnRename.j1 kj2 l1 bt851.2.2 bt861.2.2 bt869.2.2 true bt851.1 bt851.2.1 bt861.1 bt861.2.1 bt869.1 bt869.2.1))))))) = some r := by rw [if_neg (show ¬ (false = true) by decide)] at H; exact H
    replace H := Option.bind_eq_some_iff.mp H
    obtain ⟨⟨t851, t854, t857⟩, A60, H⟩ := H
    replace H : ((impl_MapRename.f kj2 t851 t854 t857).bind fun bt861 => ((spec_MapRename.f kj2 t851 t854 t857).bind fun bt869 => (if (bt861.2.2 != bt869.2.2) = true then (laws_FnRename.j1 kj2 l1 t857 bt861.2.2 bt869.2.2 true t851 t854 bt861.1 bt861.2.1 bt869.1 bt869.2.1) else ((laws_sameMap.f kj2 bt861.1 bt861.2.1 bt869.1 bt869.2.1).bind fun t877 => (if t877 = true then (laws_FnRename.j1 kj2 l1 t857 bt861.2.2 bt869.2.2 (!bt861.2.2) t851 t854 bt861.1 bt861.2.1 bt869.1 bt869.2.1) else (laws_FnRename.j1 kj2 l1 t857 bt861.2.2 bt869.2.2 true t851 t854 bt861.1 bt861.2.1 bt869.1 bt869.2.1)))))) = some r := H
    have A6 := Aside0.mk A60
    clear A60
    replace H := Option.bind_eq_some_iff.mp H
    obtain ⟨⟨t861, t864, t867⟩, A70, H⟩ := H
    replace H : ((spec_MapRename.f kj2 t851 t854 t857).bind fun bt869 => (if (t867 != bt869.2.2) = true then (laws_FnRename.j1 kj2 l1 t857 t867 bt869.2.2 true t851 t854 t861 t864 bt869.1 bt869.2.1) else ((laws_sameMap.f kj2 t861 t864 bt869.1 bt869.2.1).bind fun t877 => (if t877 = true then (laws_FnRename.j1 kj2 l1 t857 t867 bt869.2.2 (!t867) t851 t854 t861 t864 bt869.1 bt869.2.1) else (laws_FnRename.j1 kj2 l1 t857 t867 bt869.2.2 true t851 t854 t861 t864 bt869.1 bt869.2.1))))) = some r := H
    have A7 := Aside0.mk A70
    clear A70
    replace H := Option.bind_eq_some_iff.mp H
    obtain ⟨⟨t869, t872, t875⟩, A80, H⟩ := H
    replace H : (if (t867 != t875) = true then (laws_FnRename.j1 kj2 l1 t857 t867 t875 true t851 t854 t861 t864 t869 t872) else ((laws_sameMap.f kj2 t861 t864 t869 t872).bind fun t877 => (if t877 = true then (laws_FnRename.j1 kj2 l1 t857 t867 t875 (!t867) t851 t854 t861 t864 t869 t872) else (laws_FnRename.j1 kj2 l1 t857 t867 t875 true t851 t854 t861 t864 t869 t872)))) = some r := H
    have A8 := Aside0.mk A80
    clear A80
    have HC9 := Aside0.mk H
    clear H
    go_upto_region 6 with (first | ((with_reducible refine gate_callee (f := 30) rfl ?_); refine gL (some 30) Try.func30 #[.slice A0 l0.length c0] ?_; (with_reducible refine (spec_DrawMapRename.calls kj2 _ _ l0 t851 t854 t857 _ ?side1 ?side2 A6.out).mono ?_); (case side1 => exact cB HR0 HB); (case side2 => exact HC0.out); rintro e w10 ⟨v852, v855, v858, rfl, ho0, ho1, ho2, hb⟩; refine ⟨_, rfl, ?_⟩; have HO853 := Aside0.mk (Kd.Q_lower ho0 (below_size (bP HB))); have HO856 := rL ho1 HB; have HO859 := rL ho2 HB; replace HB := bS HB hb; (try clear hb); (try clear hb2); (try clear hk); (try clear hi); (try clear ho0); (try clear ho1); (try clear ho2)) | ((with_reducible refine gate_dst (N := 5) rfl ?_); (try (refine gate_guard (by rfl) ?_; dsimp only)); refine bE 5 #[.slice none 0 0, .slice none 0 0] 25 ?_; intro gb860 hg w11 hbox hb; replace HO853 := Aside0.mk (Kd.Q_below (qP HO853) hb); replace HO856 := rB HO856 hb; replace HO859 := rB HO859 hb; have BK860 := Aside0.mk (hbox); have GW860 := gS HB hg; have GE860 := gS HB hg; replace HB := bS HB hb; clear hb hbox hg; obtain ⟨Ao12, co12, eo12, _⟩ := Kd.Q_slice HO853.out; subst eo12; have hcz13_0 := zc0 BK860; have hcz13_1 := zc1 BK860; have hfz13_0 := blk_frozen BK860.out 0; have hfz13_1 := blk_frozen BK860.out 1; obtain ⟨Ao14, co14, eo14⟩ := Kd.R_slice HO856.out; subst eo14; obtain ⟨Ao15, co15, eo15⟩ := Kd.R_slice HO859.out; subst eo15) | ((with_reducible refine gate_callee (f := 24) rfl ?_); refine gL (some 36) Try.func24 #[.agg #[.slice Ao12 t851.length co12, .slice Ao14 t854.length co14], .slice Ao15 t857.length co15] ?_; (with_reducible refine (impl_MapRename.calls kj2 _ _ t851 _ _ t854 _ _ t857 t861 t864 t867 _ ?side1 ?side2 ?side3 ?side4 ?side5 ?side6 A7.out).mono ?_); (case side1 => refine (Kd.Q_reads' (e := 3) (base := w.heap.size) (ok := fun k_ => (oN k_ Ao14 t854 co14 ∧ oN k_ Ao15 t857 co15)) (n := t851.length) (c := co12) ?_).2.2; exact (qT (Kd.Q_mono (qF gb860 1 (qF gb860 0 (Kd.Q_types HO853.out BK860.out (by decide)) (.slice Ao12 t851.length co12)) (.slice Ao14 t854.length co14)) (fun _ h_ => h_.1)))); (case side2 => exact (Kd.Q_reads' HO853.out).2.1); (case side3 => refine (Kd.R_reads' (e := 3) (base := w.heap.size) (ok := fun k_ => (oN k_ Ao12 t851 co12 ∧ oN k_ Ao15 t857 co15)) (n := t854.length) (c := co14) ?_).2.2; exact (rT (Kd.R_mono (rF gb860 1 (rF gb860 0 (rY HO856 BK860) (.slice Ao12 t851.length co12)) (.slice Ao14 t854.length co14)) (fun _ h_ => h_.1)))); (case side4 => exact (Kd.R_reads' HO856.out).2.1); (case side5 => refine (Kd.R_reads' (e := 3) (base := w.heap.size) (ok := fun k_ => (oN k_ Ao12 t851 co12 ∧ oN k_ Ao14 t854 co14)) (n := t857.length) (c := co15) ?_).2.2; exact (rT (Kd.R_mono (rF gb860 1 (rF gb860 0 (rY HO859 BK860) (.slice Ao12 t851.length co12)) (.slice Ao14 t854.length co14)) (fun _ h_ => h_.1)))); (case side6 => exact (Kd.R_reads' HO859.out).2.1); rintro e w16 ⟨v862, v865, rfl, ho0, ho1, hb⟩; refine ⟨_, rfl, ?_⟩; have HO863 := Aside0.mk (Kd.R_lower (Kd.R_new' (Kd.R_new' (Kd.R_new' ho0 (Kd.Q_lt (qT (Kd.Q_mono (qF gb860 1 (qF gb860 0 (Kd.Q_types HO853.out BK860.out (by decide)) (.slice Ao12 t851.length co12)) (.slice Ao14 t854.length co14)) (fun _ h_ => h_.1))))) (Kd.R_lt (rT (Kd.R_mono (rF gb860 1 (rF gb860 0 (rY HO856 BK860) (.slice Ao12 t851.length co12)) (.slice Ao14 t854.length co14)) (fun _ h_ => h_.1))))) (Kd.R_lt (rT (Kd.R_mono (rF gb860 1 (rF gb860 0 (rY HO859 BK860) (.slice Ao12 t851.length co12)) (.slice Ao14 t854.length co14)) (fun _ h_ => h_.1))))) (below_size (bP HB))); have HO866 := Aside0.mk (Kd.R_lower (Kd.R_new' (Kd.R_new' (Kd.R_new' ho1 (Kd.Q_lt (qT (Kd.Q_mono (qF gb860 1 (qF gb860 0 (Kd.Q_types HO853.out BK860.out (by decide)) (.slice Ao12 t851.length co12)) (.slice Ao14 t854.length co14)) (fun _ h_ => h_.1))))) (Kd.R_lt (rT (Kd.R_mono (rF gb860 1 (rF gb860 0 (rY HO856 BK860) (.slice Ao12 t851.length co12)) (.slice Ao14 t854.length co14)) (fun _ h_ => h_.1))))) (Kd.R_lt (rT (Kd.R_mono (rF gb860 1 (rF gb860 0 (rY HO859 BK860) (.slice Ao12 t851.length co12)) (.slice Ao14 t854.length co14)) (fun _ h_ => h_.1))))) (below_size (bP HB))); replace HO853 := Aside0.mk (Kd.Q_mono (Kd.Q_told (Kd.Q_told (Kd.Q_old (qT (Kd.Q_mono (qF gb860 1 (qF gb860 0 (Kd.Q_types HO853.out BK860.out (by decide)) (.slice Ao12 t851.length co12)) (.slice Ao14 t854.length co14)) (fun _ h_ => h_.1))) hb) (Kd.R_base ho0)) (Kd.R_base ho1)) (fun _ h_ => h_.1)); replace HO856 := Aside0.mk (Kd.R_mono (Kd.R_told (Kd.R_told (Kd.R_old (rT (Kd.R_mono (rF gb860 1 (rF gb860 0 (rY HO856 BK860) (.slice Ao12 t851.length co12)) (.slice Ao14 t854.length co14)) (fun _ h_ => h_.1))) hb) (Kd.R_base ho0)) (Kd.R_base ho1)) (fun _ h_ => h_.1)); replace HO859 := Aside0.mk (Kd.R_mono (Kd.R_told (Kd.R_told (Kd.R_old (rT (Kd.R_mono (rF gb860 1 (rF gb860 0 (rY HO859 BK860) (.slice Ao12 t851.length co12)) (.slice Ao14 t854.length co14)) (fun _ h_ => h_.1))) hb) (Kd.R_base ho0)) (Kd.R_base ho1)) (fun _ h_ => h_.1)); replace BK860 := Aside0.mk (blk_below (g := gb860) (o := .cells #[.slice Ao12 t851.length co12, .slice Ao14 t854.length co14] 25 (0, 0)) (by (with_reducible repeat (first | refine blk_drewN ?_ _ | refine blk_drew ?_ | refine blk_alloc ?_ _)); refine blk_put (cs := #[.slice Ao12 t851.length co12, .slice none 0 0]) ?_ 1 _ rfl; (with_reducible repeat (first | refine blk_drewN ?_ _ | refine blk_drew ?_ | refine blk_alloc ?_ _)); refine blk_put (cs := #[.slice none 0 0, .slice none 0 0]) ?_ 0 _ rfl; (with_reducible repeat (first | refine blk_drewN ?_ _ | refine blk_drew ?_ | refine blk_alloc ?_ _)); exact BK860.out) hb); replace HB := bS HB hb; (try clear hb); (try clear hb2); (try clear hk); (try clear hi); (try clear ho0); (try clear ho1)) | ((with_reducible refine gate_dst (N := 7) rfl ?_); (try (refine gate_guard (by rfl) ?_; dsimp only)); refine bE 7 #[.slice none 0 0, .slice none 0 0] 25 ?_; intro gb868 hg w17 hbox hb; replace HO853 := Aside0.mk (Kd.Q_below (qP HO853) hb); replace HO856 := rB HO856 hb; replace HO859 := rB HO859 hb; replace HO863 := rB HO863 hb; replace HO866 := rB HO866 hb; have BK868 := Aside0.mk (hbox); have GW868 := gS HB hg; have GE868 := gS HB hg; replace HB := bS HB hb; have NB860_868 := nL BK860 hg; have NB868_860 := nG BK860 hg; replace BK860 := kB BK860 hb; clear hb hbox hg; obtain ⟨Ao18, co18, eo18⟩ := Kd.R_slice HO863.out; subst eo18; have hnb19 := NB868_860.out; have hnc19 := NB860_868.out; have hcz20_0 := zc0 BK868; have hcz20_1 := zc1 BK868; have hfz20_0 := blk_frozen BK868.out 0; have hfz20_1 := blk_frozen BK868.out 1; obtain ⟨Ao21, co21, eo21⟩ := Kd.R_slice HO866.out; subst eo21; have hcz22_0 := zc0 BK860; have hcz22_1 := zc1 BK860; have hfz22_0 := blk_frozen BK860.out 0; have hfz22_1 := blk_frozen BK860.out 1) | ((with_reducible refine gate_callee (f := 31) rfl ?_); refine gL (some 42) Try.func31 #[.agg #[.slice Ao12 t851.length co12, .slice Ao14 t854.length co14], .slice Ao15 t857.length co15] ?_; (with_reducible refine (spec_MapRename.calls kj2 _ _ t851 _ _ t854 _ _ t857 t869 t872 t875 _ ?side1 ?side2 ?side3 ?side4 ?side5 ?side6 A8.out).mono ?_); (case side1 => refine (Kd.Q_reads' (e := 3) (base := w.heap.size) (ok := fun k_ => (((oN k_ Ao14 t854 co14 ∧ oN k_ Ao15 t857 co15) ∧ oN k_ Ao18 t861 co18) ∧ oN k_ Ao21 t864 co21)) (n := t851.length) (c := co12) ?_).2.2; exact (qT (Kd.Q_mono (qF gb868 1 (qF gb868 0 (Kd.Q_types HO853.out BK868.out (by decide)) (.slice Ao18 t861.length co18)) (.slice Ao21 t864.length co21)) (fun _ h_ => h_.1)))); (case side2 => exact (Kd.Q_reads' HO853.out).2.1); (case side3 => refine (Kd.R_reads' (e := 3) (base := w.heap.size) (ok := fun k_ => (((oN k_ Ao12 t851 co12 ∧ oN k_ Ao15 t857 co15) ∧ oN k_ Ao18 t861 co18) ∧ oN k_ Ao21 t864 co21)) (n := t854.length) (c := co14) ?_).2.2; exact (rT (Kd.R_mono (rF gb868 1 (rF gb868 0 (rY HO856 BK868) (.slice Ao18 t861.length co18)) (.slice Ao21 t864.length co21)) (fun _ h_ => h_.1)))); (case side4 => exact (Kd.R_reads' HO856.out).2.1); (case side5 => refine (Kd.R_reads' (e := 3) (base := w.heap.size) (ok := fun k_ => (((oN k_ Ao12 t851 co12 ∧ oN k_ Ao14 t854 co14) ∧ oN k_ Ao18 t861 co18) ∧ oN k_ Ao21 t864 co21)) (n := t857.length) (c := co15) ?_).2.2; exact (rT (Kd.R_mono (rF gb868 1 (rF gb868 0 (rY HO859 BK868) (.slice Ao18 t861.length co18)) (.slice Ao21 t864.length co21)) (fun _ h_ => h_.1)))); (case side6 => exact (Kd.R_reads' HO859.out).2.1); rintro e w23 ⟨v870, v873, rfl, ho0, ho1, hb⟩; refine ⟨_, rfl, ?_⟩; have HO871 := Aside0.mk (Kd.R_lower (Kd.R_new' (Kd.R_new' (Kd.R_new' (Kd.R_new' (Kd.R_new' ho0 (Kd.Q_lt (qT (Kd.Q_mono (qF gb868 1 (qF gb868 0 (Kd.Q_types HO853.out BK868.out (by decide)) (.slice Ao18 t861.length co18)) (.slice Ao21 t864.length co21)) (fun _ h_ => h_.1))))) (Kd.R_lt (rT (Kd.R_mono (rF gb868 1 (rF gb868 0 (rY HO856 BK868) (.slice Ao18 t861.length co18)) (.slice Ao21 t864.length co21)) (fun _ h_ => h_.1))))) (Kd.R_lt (rT (Kd.R_mono (rF gb868 1 (rF gb868 0 (rY HO859 BK868) (.slice Ao18 t861.length co18)) (.slice Ao21 t864.length co21)) (fun _ h_ => h_.1))))) (Kd.R_lt (rT (Kd.R_mono (rF gb868 1 (rF gb868 0 (rY HO863 BK868) (.slice Ao18 t861.length co18)) (.slice Ao21 t864.length co21)) (fun _ h_ => h_.1))))) (Kd.R_lt (rT (Kd.R_mono (rF gb868 1 (rF gb868 0 (rY HO866 BK868) (.slice Ao18 t861.length co18)) (.slice Ao21 t864.length co21)) (fun _ h_ => h_.1))))) (below_size (bP HB))); have HO874 := Aside0.mk (Kd.R_lower (Kd.R_new' (Kd.R_new' (Kd.R_new' (Kd.R_new' (Kd.R_new' ho1 (Kd.Q_lt (qT (Kd.Q_mono (qF gb868 1 (qF gb868 0 (Kd.Q_types HO853.out BK868.out (by decide)) (.slice Ao18 t861.length co18)) (.slice Ao21 t864.length co21)) (fun _ h_ => h_.1))))) (Kd.R_lt (rT (Kd.R_mono (rF gb868 1 (rF gb868 0 (rY HO856 BK868) (.slice Ao18 t861.length co18)) (.slice Ao21 t864.length co21)) (fun _ h_ => h_.1))))) (Kd.R_lt (rT (Kd.R_mono (rF gb868 1 (rF gb868 0 (rY HO859 BK868) (.slice Ao18 t861.length co18)) (.slice Ao21 t864.length co21)) (fun _ h_ => h_.1))))) (Kd.R_lt (rT (Kd.R_mono (rF gb868 1 (rF gb868 0 (rY HO863 BK868) (.slice Ao18 t861.length co18)) (.slice Ao21 t864.length co21)) (fun _ h_ => h_.1))))) (Kd.R_lt (rT (Kd.R_mono (rF gb868 1 (rF gb868 0 (rY HO866 BK868) (.slice Ao18 t861.length co18)) (.slice Ao21 t864.length co21)) (fun _ h_ => h_.1))))) (below_size (bP HB))); replace HO853 := Aside0.mk (Kd.Q_mono (Kd.Q_told (Kd.Q_told (Kd.Q_old (qT (Kd.Q_mono (qF gb868 1 (qF gb868 0 (Kd.Q_types HO853.out BK868.out (by decide)) (.slice Ao18 t861.length co18)) (.slice Ao21 t864.length co21)) (fun _ h_ => h_.1))) hb) (Kd.R_base ho0)) (Kd.R_base ho1)) (fun _ h_ => h_.1)); replace HO856 := Aside0.mk (Kd.R_mono (Kd.R_told (Kd.R_told (Kd.R_old (rT (Kd.R_mono (rF gb868 1 (rF gb868 0 (rY HO856 BK868) (.slice Ao18 t861.length co18)) (.slice Ao21 t864.length co21)) (fun _ h_ => h_.1))) hb) (Kd.R_base ho0)) (Kd.R_base ho1)) (fun _ h_ => h_.1)); replace HO859 := Aside0.mk (Kd.R_mono (Kd.R_told (Kd.R_told (Kd.R_old (rT (Kd.R_mono (rF gb868 1 (rF gb868 0 (rY HO859 BK868) (.slice Ao18 t861.length co18)) (.slice Ao21 t864.length co21)) (fun _ h_ => h_.1))) hb) (Kd.R_base ho0)) (Kd.R_base ho1)) (fun _ h_ => h_.1)); replace HO863 := Aside0.mk (Kd.R_mono (Kd.R_told (Kd.R_told (Kd.R_old (rT (Kd.R_mono (rF gb868 1 (rF gb868 0 (rY HO863 BK868) (.slice Ao18 t861.length co18)) (.slice Ao21 t864.length co21)) (fun _ h_ => h_.1))) hb) (Kd.R_base ho0)) (Kd.R_base ho1)) (fun _ h_ => h_.1)); replace HO866 := Aside0.mk (Kd.R_mono (Kd.R_told (Kd.R_told (Kd.R_old (rT (Kd.R_mono (rF gb868 1 (rF gb868 0 (rY HO866 BK868) (.slice Ao18 t861.length co18)) (.slice Ao21 t864.length co21)) (fun _ h_ => h_.1))) hb) (Kd.R_base ho0)) (Kd.R_base ho1)) (fun _ h_ => h_.1)); replace BK860 := kG BK860 hb; replace BK868 := Aside0.mk (blk_below (g := gb868) (o := .cells #[.slice Ao18 t861.length co18, .slice Ao21 t864.length co21] 25 (0, 0)) (by (with_reducible repeat (first | refine blk_drewN ?_ _ | refine blk_drew ?_ | refine blk_alloc ?_ _)); refine blk_put (cs := #[.slice Ao18 t861.length co18, .slice none 0 0]) ?_ 1 _ rfl; (with_reducible repeat (first | refine blk_drewN ?_ _ | refine blk_drew ?_ | refine blk_alloc ?_ _)); refine blk_put (cs := #[.slice none 0 0, .slice none 0 0]) ?_ 0 _ rfl; (with_reducible repeat (first | refine blk_drewN ?_ _ | refine blk_drew ?_ | refine blk_alloc ?_ _)); exact BK868.out) hb); replace HB := bS HB hb; (try clear hb); (try clear hb2); (try clear hk); (try clear hi); (try clear ho0); (try clear ho1)) | ((with_reducible refine gate_dst (N := 9) rfl ?_); (try (refine gate_guard (by rfl) ?_; dsimp only)); refine bE 9 #[.slice none 0 0, .slice none 0 0] 25 ?_; intro gb876 hg w24 hbox hb; replace HO853 := Aside0.mk (Kd.Q_below (qP HO853) hb); replace HO856 := rB HO856 hb; replace HO859 := rB HO859 hb; replace HO863 := rB HO863 hb; replace HO866 := rB HO866 hb; replace HO871 := rB HO871 hb; replace HO874 := rB HO874 hb; have BK876 := Aside0.mk (hbox); have GW876 := gS HB hg; have GE876 := gS HB hg; replace HB := bS HB hb; have NB860_876 := nL BK860 hg; have NB876_860 := nG BK860 hg; replace BK860 := kB BK860 hb; have NB868_876 := nL BK868 hg; have NB876_868 := nG BK868 hg; replace BK868 := kB BK868 hb; clear hb hbox hg; obtain ⟨Ao25, co25, eo25⟩ := Kd.R_slice HO871.out; subst eo25; have hnb26 := NB876_860.out; have hnc26 := NB860_876.out; have hnb27 := NB876_868.out; have hnc27 := NB868_876.out; have hcz28_0 := zc0 BK876; have hcz28_1 := zc1 BK876; have hfz28_0 := blk_frozen BK876.out 0; have hfz28_1 := blk_frozen BK876.out 1; obtain ⟨Ao29, co29, eo29⟩ := Kd.R_slice HO874.out; subst eo29))
    (try simp only [Act.put, List.setIfInBounds_toArray, List.set_cons_zero, List.set_cons_succ])
    go_cut [57] (fun v57 wc => ∃ (kq : Nat) (x57_8 : Bool), v57 = .bool x57_8 ∧ Aside0 (laws_FnRename.j1 kq l1 t857 t867 t875 x57_8 t851 t854 t861 t864 t869 t872 = some r) ∧ Aside0 (kq ≤ kj2) ∧ Aside0 (Kd.R (Kd.int .i64) 3 wc w.heap.size (fun k_ => oN k_ Ao12 t851 co12 ∧ oN k_ Ao14 t854 co14 ∧ oN k_ Ao18 t861 co18 ∧ oN k_ Ao21 t864 co21 ∧ oN k_ Ao25 t869 co25 ∧ oN k_ Ao29 t872 co29) (.slice Ao15 t857.length co15) t857) ∧ Aside0 (Kd.Q (Kd.int .i64) 3 wc w.heap.size (fun k_ => oN k_ Ao15 t857 co15 ∧ oN k_ Ao14 t854 co14 ∧ oN k_ Ao18 t861 co18 ∧ oN k_ Ao21 t864 co21 ∧ oN k_ Ao25 t869 co25 ∧ oN k_ Ao29 t872 co29) (.slice Ao12 t851.length co12) t851) ∧ Aside0 (Kd.R (Kd.int .i64) 3 wc w.heap.size (fun k_ => oN k_ Ao15 t857 co15 ∧ oN k_ Ao12 t851 co12 ∧ oN k_ Ao18 t861 co18 ∧ oN k_ Ao21 t864 co21 ∧ oN k_ Ao25 t869 co25 ∧ oN k_ Ao29 t872 co29) (.slice Ao14 t854.length co14) t854) ∧ Aside0 (Kd.Q (Kd.int .i64) 3 wc w.heap.size (fun k_ => oN k_ Ao15 t857 co15 ∧ oN k_ Ao12 t851 co12 ∧ oN k_ Ao14 t854 co14 ∧ oN k_ Ao21 t864 co21 ∧ oN k_ Ao25 t869 co25 ∧ oN k_ Ao29 t872 co29) (.slice Ao18 t861.length co18) t861) ∧ Aside0 (Kd.R (Kd.int .i64) 3 wc w.heap.size (fun k_ => oN k_ Ao15 t857 co15 ∧ oN k_ Ao12 t851 co12 ∧ oN k_ Ao14 t854 co14 ∧ oN k_ Ao18 t861 co18 ∧ oN k_ Ao25 t869 co25 ∧ oN k_ Ao29 t872 co29) (.slice Ao21 t864.length co21) t864) ∧ Aside0 (Kd.Q (Kd.int .i64) 3 wc w.heap.size (fun k_ => oN k_ Ao15 t857 co15 ∧ oN k_ Ao12 t851 co12 ∧ oN k_ Ao14 t854 co14 ∧ oN k_ Ao18 t861 co18 ∧ oN k_ Ao21 t864 co21 ∧ oN k_ Ao29 t872 co29) (.slice Ao25 t869.length co25) t869) ∧ Aside0 (Kd.R (Kd.int .i64) 3 wc w.heap.size (fun k_ => oN k_ Ao15 t857 co15 ∧ oN k_ Ao12 t851 co12 ∧ oN k_ Ao14 t854 co14 ∧ oN k_ Ao18 t861 co18 ∧ oN k_ Ao21 t864 co21 ∧ oN k_ Ao25 t869 co25) (.slice Ao29 t872.length co29) t872) ∧ Aside0 (wc.heap[gb860]? = some (.cells #[(.slice Ao12 t851.length co12), (.slice Ao14 t854.length co14)] 25 (0, 0))) ∧ Aside0 (wc.heap[gb868]? = some (.cells #[(.slice Ao18 t861.length co18), (.slice Ao21 t864.length co21)] 25 (0, 0))) ∧ Aside0 (wc.heap[gb876]? = some (.cells #[(.slice Ao25 t869.length co25), (.slice Ao29 t872.length co29)] 25 (0, 0))) ∧ Aside0 (Below w.heap.size w wc))
    case first =>
     have H := HC9.out
     clear HC9
     by_cases c30 : (t867 != t875) = true
     ·rw [if_pos c30] at H
      have c30b0 : (t867 != t875) = true := c30
      (try (have c30b1 : decide (t867 = t875) = false := by simpa using c30))
      (try (have c30b2 : (t867 == t875) = false := by simpa using c30))
      (try (have c30b3 : ¬ (t867 = t875) := by simpa using c30))
      clear c30
      (first | rw [c30b0] | (simp only [i64_w, i32_w]; rw [c30b0]) | skip)
      have H' := Aside0.mk H
      clear H
      go_wp2
      go_meet
      case rel => exact ⟨_, (true), eS, H', ⟨by have := HJ2.out; first | omega | exact Nat.le_refl _⟩, ⟨rT (Kd.R_mono (rF gb876 1 (rF gb876 0 (rY HO859 BK876) (.slice Ao25 t869.length co25)) (.slice Ao29 t872.length co29)) (fun _ hk => ⟨hk.1.1.1.1.1.1, ⟨hk.1.1.1.1.1.2, ⟨hk.1.1.1.1.2, ⟨hk.1.1.1.2, ⟨hk.1.1.2, hk.1.2⟩⟩⟩⟩⟩))⟩, ⟨qT (Kd.Q_mono (qF gb876 1 (qF gb876 0 (Kd.Q_types HO853.out BK876.out (by decide)) (.slice Ao25 t869.length co25)) (.slice Ao29 t872.length co29)) (fun _ hk => ⟨hk.1.1.1.1.1.2, ⟨hk.1.1.1.1.1.1, ⟨hk.1.1.1.1.2, ⟨hk.1.1.1.2, ⟨hk.1.1.2, hk.1.2⟩⟩⟩⟩⟩))⟩, ⟨rT (Kd.R_mono (rF gb876 1 (rF gb876 0 (rY HO856 BK876) (.slice Ao25 t869.length co25)) (.slice Ao29 t872.length co29)) (fun _ hk => ⟨hk.1.1.1.1.1.2, ⟨hk.1.1.1.1.1.1, ⟨hk.1.1.1.1.2, ⟨hk.1.1.1.2, ⟨hk.1.1.2, hk.1.2⟩⟩⟩⟩⟩))⟩, ⟨Kd.Q_of_R (rT (Kd.R_mono (rF gb876 1 (rF gb876 0 (rY HO863 BK876) (.slice Ao25 t869.length co25)) (.slice Ao29 t872.length co29)) (fun _ hk => ⟨hk.1.1.1.2, ⟨hk.1.1.1.1.1.2, ⟨hk.1.1.1.1.2, ⟨hk.1.1.1.1.1.1, ⟨hk.1.1.2, hk.1.2⟩⟩⟩⟩⟩)))⟩, ⟨rT (Kd.R_mono (rF gb876 1 (rF gb876 0 (rY HO866 BK876) (.slice Ao25 t869.length co25)) (.slice Ao29 t872.length co29)) (fun _ hk => ⟨hk.1.1.1.2, ⟨hk.1.1.1.1.1.2, ⟨hk.1.1.1.1.2, ⟨hk.1.1.1.1.1.1, ⟨hk.1.1.2, hk.1.2⟩⟩⟩⟩⟩))⟩, ⟨Kd.Q_of_R (rT (Kd.R_mono (rF gb876 1 (rF gb876 0 (rY HO871 BK876) (.slice Ao25 t869.length co25)) (.slice Ao29 t872.length co29)) (fun _ hk => ⟨hk.1.1.1.2, ⟨hk.1.1.1.1.1.2, ⟨hk.1.1.1.1.2, ⟨hk.1.1.2, ⟨hk.1.2, hk.1.1.1.1.1.1⟩⟩⟩⟩⟩)))⟩, ⟨rT (Kd.R_mono (rF gb876 1 (rF gb876 0 (rY HO874 BK876) (.slice Ao25 t869.length co25)) (.slice Ao29 t872.length co29)) (fun _ hk => ⟨hk.1.1.1.2, ⟨hk.1.1.1.1.1.2, ⟨hk.1.1.1.1.2, ⟨hk.1.1.2, ⟨hk.1.2, hk.1.1.1.1.1.1⟩⟩⟩⟩⟩))⟩, ⟨kF BK860⟩, ⟨kF BK868⟩, ⟨by (with_reducible repeat (first | refine blk_drewN ?_ _ | refine blk_drew ?_ | refine blk_alloc ?_ _)); refine blk_put (cs := #[.slice Ao25 t869.length co25, .slice none 0 0]) ?_ 1 _ rfl; (with_reducible repeat (first | refine blk_drewN ?_ _ | refine blk_drew ?_ | refine blk_alloc ?_ _)); refine blk_put (cs := #[.slice none 0 0, .slice none 0 0]) ?_ 0 _ rfl; (with_reducible repeat (first | refine blk_drewN ?_ _ | refine blk_drew ?_ | refine blk_alloc ?_ _)); exact BK876.out⟩, ⟨bP HB⟩⟩
     rw [if_neg c30] at H
     have c30b0 : (t867 != t875) = false := by simpa using c30
     (try (have c30b1 : decide (t867 = t875) = true := by simpa using c30))
     (try (have c30b2 : (t867 == t875) = true := by simpa using c30))
     clear c30
     (first | rw [c30b0] | (simp only [i64_w, i32_w]; rw [c30b0]) | skip)
     replace H := Option.bind_eq_some_iff.mp H
     obtain ⟨t877, A310, H⟩ := H
     replace H : (if t877 = true then (laws_FnRename.j1 kj2 l1 t857 t867 t875 (!t867) t851 t854 t861 t864 t869 t872) else (laws_FnRename.j1 kj2 l1 t857 t867 t875 true t851 t854 t861 t864 t869 t872)) = some r := H
     have A31 := Aside0.mk A310
     clear A310
     by_cases c32 : t877 = true
     ·subst c32
      replace H : (laws_FnRename.j1 kj2 l1 t857 t867 t875 (!t867) t851 t854 t861 t864 t869 t872) = some r := by rw [if_pos rfl] at H; exact H
      have H' := Aside0.mk H
      clear H
      have hnb33 := NB868_860.out
      have hnc33 := NB860_868.out
      have hnb34 := NB868_876.out
      have hnc34 := NB876_868.out
      have hcz35_0 := zc0 BK868
      have hcz35_1 := zc1 BK868
      have hfz35_0 := blk_frozen BK868.out 0
      have hfz35_1 := blk_frozen BK868.out 1
      have hnb36 := NB876_860.out
      have hnc36 := NB860_876.out
      have hcz37_0 := zc0 BK876
      have hcz37_1 := zc1 BK876
      have hfz37_0 := blk_frozen BK876.out 0
      have hfz37_1 := blk_frozen BK876.out 1
      go_wp2_with (first | (go_at_call 22; (with_reducible refine (laws_sameMap.calls kj2 _ _ t861 _ _ t864 _ _ t869 _ _ t872 true _ ?side1 ?side2 ?side3 ?side4 ?side5 ?side6 ?side7 ?side8 A31.out).mono ?_); (case side1 => refine (Kd.R_reads' (e := 3) (base := w.heap.size) (ok := fun k_ => (((((oN k_ Ao21 t864 co21 ∧ oN k_ Ao12 t851 co12) ∧ oN k_ Ao14 t854 co14) ∧ oN k_ Ao15 t857 co15) ∧ oN k_ Ao25 t869 co25) ∧ oN k_ Ao29 t872 co29)) (n := t861.length) (c := co18) ?_).2.2; exact (rT (Kd.R_mono (rF gb876 1 (rF gb876 0 (rY HO863 BK876) (.slice Ao25 t869.length co25)) (.slice Ao29 t872.length co29)) (fun _ h_ => h_.1)))); (case side2 => exact (Kd.R_reads' HO863.out).2.1); (case side3 => refine (Kd.R_reads' (e := 3) (base := w.heap.size) (ok := fun k_ => (((((oN k_ Ao18 t861 co18 ∧ oN k_ Ao12 t851 co12) ∧ oN k_ Ao14 t854 co14) ∧ oN k_ Ao15 t857 co15) ∧ oN k_ Ao25 t869 co25) ∧ oN k_ Ao29 t872 co29)) (n := t864.length) (c := co21) ?_).2.2; exact (rT (Kd.R_mono (rF gb876 1 (rF gb876 0 (rY HO866 BK876) (.slice Ao25 t869.length co25)) (.slice Ao29 t872.length co29)) (fun _ h_ => h_.1)))); (case side4 => exact (Kd.R_reads' HO866.out).2.1); (case side5 => refine (Kd.R_reads' (e := 3) (base := w.heap.size) (ok := fun k_ => (((((oN k_ Ao29 t872 co29 ∧ oN k_ Ao12 t851 co12) ∧ oN k_ Ao14 t854 co14) ∧ oN k_ Ao15 t857 co15) ∧ oN k_ Ao18 t861 co18) ∧ oN k_ Ao21 t864 co21)) (n := t869.length) (c := co25) ?_).2.2; exact (rT (Kd.R_mono (rF gb876 1 (rF gb876 0 (rY HO871 BK876) (.slice Ao25 t869.length co25)) (.slice Ao29 t872.length co29)) (fun _ h_ => h_.1)))); (case side6 => exact (Kd.R_reads' HO871.out).2.1); (case side7 => refine (Kd.R_reads' (e := 3) (base := w.heap.size) (ok := fun k_ => (((((oN k_ Ao25 t869 co25 ∧ oN k_ Ao12 t851 co12) ∧ oN k_ Ao14 t854 co14) ∧ oN k_ Ao15 t857 co15) ∧ oN k_ Ao18 t861 co18) ∧ oN k_ Ao21 t864 co21)) (n := t872.length) (c := co29) ?_).2.2; exact (rT (Kd.R_mono (rF gb876 1 (rF gb876 0 (rY HO874 BK876) (.slice Ao25 t869.length co25)) (.slice Ao29 t872.length co29)) (fun _ h_ => h_.1)))); (case side8 => exact (Kd.R_reads' HO874.out).2.1); rintro e w38 ⟨rfl, hb⟩; replace HO853 := Aside0.mk (Kd.Q_below (qT (Kd.Q_mono (qF gb876 1 (qF gb876 0 (Kd.Q_types HO853.out BK876.out (by decide)) (.slice Ao25 t869.length co25)) (.slice Ao29 t872.length co29)) (fun _ h_ => h_.1))) hb); replace HO856 := Aside0.mk (Kd.R_below (rT (Kd.R_mono (rF gb876 1 (rF gb876 0 (rY HO856 BK876) (.slice Ao25 t869.length co25)) (.slice Ao29 t872.length co29)) (fun _ h_ => h_.1))) hb); replace HO859 := Aside0.mk (Kd.R_below (rT (Kd.R_mono (rF gb876 1 (rF gb876 0 (rY HO859 BK876) (.slice Ao25 t869.length co25)) (.slice Ao29 t872.length co29)) (fun _ h_ => h_.1))) hb); replace HO863 := Aside0.mk (Kd.R_below (rT (Kd.R_mono (rF gb876 1 (rF gb876 0 (rY HO863 BK876) (.slice Ao25 t869.length co25)) (.slice Ao29 t872.length co29)) (fun _ h_ => h_.1))) hb); replace HO866 := Aside0.mk (Kd.R_below (rT (Kd.R_mono (rF gb876 1 (rF gb876 0 (rY HO866 BK876) (.slice Ao25 t869.length co25)) (.slice Ao29 t872.length co29)) (fun _ h_ => h_.1))) hb); replace HO871 := Aside0.mk (Kd.R_below (rT (Kd.R_mono (rF gb876 1 (rF gb876 0 (rY HO871 BK876) (.slice Ao25 t869.length co25)) (.slice Ao29 t872.length co29)) (fun _ h_ => h_.1))) hb); replace HO874 := Aside0.mk (Kd.R_below (rT (Kd.R_mono (rF gb876 1 (rF gb876 0 (rY HO874 BK876) (.slice Ao25 t869.length co25)) (.slice Ao29 t872.length co29)) (fun _ h_ => h_.1))) hb); replace BK860 := kG BK860 hb; replace BK868 := kG BK868 hb; replace BK876 := Aside0.mk (blk_below (g := gb876) (o := .cells #[.slice Ao25 t869.length co25, .slice Ao29 t872.length co29] 25 (0, 0)) (by (with_reducible repeat (first | refine blk_drewN ?_ _ | refine blk_drew ?_ | refine blk_alloc ?_ _)); refine blk_put (cs := #[.slice Ao25 t869.length co25, .slice none 0 0]) ?_ 1 _ rfl; (with_reducible repeat (first | refine blk_drewN ?_ _ | refine blk_drew ?_ | refine blk_alloc ?_ _)); refine blk_put (cs := #[.slice none 0 0, .slice none 0 0]) ?_ 0 _ rfl; (with_reducible repeat (first | refine blk_drewN ?_ _ | refine blk_drew ?_ | refine blk_alloc ?_ _)); exact BK876.out) hb); replace HB := bS HB hb; (try clear hb); (try clear hb2); (try clear hk); (try clear hi)))
      go_meet
      case rel => exact ⟨_, (!t867), eS, H', ⟨by have := HJ2.out; first | omega | exact Nat.le_refl _⟩, ⟨rT (Kd.R_mono HO859.out (fun _ hk => ⟨hk.1.1.1.1.1, ⟨hk.1.1.1.1.2, ⟨hk.1.1.1.2, ⟨hk.1.1.2, ⟨hk.1.2, hk.2⟩⟩⟩⟩⟩))⟩, ⟨qT (Kd.Q_mono HO853.out (fun _ hk => ⟨hk.1.1.1.1.2, ⟨hk.1.1.1.1.1, ⟨hk.1.1.1.2, ⟨hk.1.1.2, ⟨hk.1.2, hk.2⟩⟩⟩⟩⟩))⟩, ⟨rT (Kd.R_mono HO856.out (fun _ hk => ⟨hk.1.1.1.1.2, ⟨hk.1.1.1.1.1, ⟨hk.1.1.1.2, ⟨hk.1.1.2, ⟨hk.1.2, hk.2⟩⟩⟩⟩⟩))⟩, ⟨Kd.Q_of_R (rT (Kd.R_mono HO863.out (fun _ hk => ⟨hk.1.1.2, ⟨hk.1.1.1.1.2, ⟨hk.1.1.1.2, ⟨hk.1.1.1.1.1, ⟨hk.1.2, hk.2⟩⟩⟩⟩⟩)))⟩, ⟨rT (Kd.R_mono HO866.out (fun _ hk => ⟨hk.1.1.2, ⟨hk.1.1.1.1.2, ⟨hk.1.1.1.2, ⟨hk.1.1.1.1.1, ⟨hk.1.2, hk.2⟩⟩⟩⟩⟩))⟩, ⟨Kd.Q_of_R (rT (Kd.R_mono HO871.out (fun _ hk => ⟨hk.1.1.2, ⟨hk.1.1.1.1.2, ⟨hk.1.1.1.2, ⟨hk.1.2, ⟨hk.2, hk.1.1.1.1.1⟩⟩⟩⟩⟩)))⟩, ⟨rT (Kd.R_mono HO874.out (fun _ hk => ⟨hk.1.1.2, ⟨hk.1.1.1.1.2, ⟨hk.1.1.1.2, ⟨hk.1.2, ⟨hk.2, hk.1.1.1.1.1⟩⟩⟩⟩⟩))⟩, ⟨kP BK860⟩, ⟨kP BK868⟩, ⟨kP BK876⟩, ⟨bP HB⟩⟩
     replace c32 := Bool.eq_false_iff.mpr c32
     subst c32
     replace H : (laws_FnRename.j1 kj2 l1 t857 t867 t875 true t851 t854 t861 t864 t869 t872) = some r := by rw [if_neg (show ¬ (false = true) by decide)] at H; exact H
     have H' := Aside0.mk H
     clear H
     have hnb39 := NB868_860.out
     have hnc39 := NB860_868.out
     have hnb40 := NB868_876.out
     have hnc40 := NB876_868.out
     have hcz41_0 := zc0 BK868
     have hcz41_1 := zc1 BK868
     have hfz41_0 := blk_frozen BK868.out 0
     have hfz41_1 := blk_frozen BK868.out 1
     have hnb42 := NB876_860.out
     have hnc42 := NB860_876.out
     have hcz43_0 := zc0 BK876
     have hcz43_1 := zc1 BK876
     have hfz43_0 := blk_frozen BK876.out 0
     have hfz43_1 := blk_frozen BK876.out 1
     go_wp2_with (first | (go_at_call 22; (with_reducible refine (laws_sameMap.calls kj2 _ _ t861 _ _ t864 _ _ t869 _ _ t872 false _ ?side1 ?side2 ?side3 ?side4 ?side5 ?side6 ?side7 ?side8 A31.out).mono ?_); (case side1 => refine (Kd.R_reads' (e := 3) (base := w.heap.size) (ok := fun k_ => (((((oN k_ Ao21 t864 co21 ∧ oN k_ Ao12 t851 co12) ∧ oN k_ Ao14 t854 co14) ∧ oN k_ Ao15 t857 co15) ∧ oN k_ Ao25 t869 co25) ∧ oN k_ Ao29 t872 co29)) (n := t861.length) (c := co18) ?_).2.2; exact (rT (Kd.R_mono (rF gb876 1 (rF gb876 0 (rY HO863 BK876) (.slice Ao25 t869.length co25)) (.slice Ao29 t872.length co29)) (fun _ h_ => h_.1)))); (case side2 => exact (Kd.R_reads' HO863.out).2.1); (case side3 => refine (Kd.R_reads' (e := 3) (base := w.heap.size) (ok := fun k_ => (((((oN k_ Ao18 t861 co18 ∧ oN k_ Ao12 t851 co12) ∧ oN k_ Ao14 t854 co14) ∧ oN k_ Ao15 t857 co15) ∧ oN k_ Ao25 t869 co25) ∧ oN k_ Ao29 t872 co29)) (n := t864.length) (c := co21) ?_).2.2; exact (rT (Kd.R_mono (rF gb876 1 (rF gb876 0 (rY HO866 BK876) (.slice Ao25 t869.length co25)) (.slice Ao29 t872.length co29)) (fun _ h_ => h_.1)))); (case side4 => exact (Kd.R_reads' HO866.out).2.1); (case side5 => refine (Kd.R_reads' (e := 3) (base := w.heap.size) (ok := fun k_ => (((((oN k_ Ao29 t872 co29 ∧ oN k_ Ao12 t851 co12) ∧ oN k_ Ao14 t854 co14) ∧ oN k_ Ao15 t857 co15) ∧ oN k_ Ao18 t861 co18) ∧ oN k_ Ao21 t864 co21)) (n := t869.length) (c := co25) ?_).2.2; exact (rT (Kd.R_mono (rF gb876 1 (rF gb876 0 (rY HO871 BK876) (.slice Ao25 t869.length co25)) (.slice Ao29 t872.length co29)) (fun _ h_ => h_.1)))); (case side6 => exact (Kd.R_reads' HO871.out).2.1); (case side7 => refine (Kd.R_reads' (e := 3) (base := w.heap.size) (ok := fun k_ => (((((oN k_ Ao25 t869 co25 ∧ oN k_ Ao12 t851 co12) ∧ oN k_ Ao14 t854 co14) ∧ oN k_ Ao15 t857 co15) ∧ oN k_ Ao18 t861 co18) ∧ oN k_ Ao21 t864 co21)) (n := t872.length) (c := co29) ?_).2.2; exact (rT (Kd.R_mono (rF gb876 1 (rF gb876 0 (rY HO874 BK876) (.slice Ao25 t869.length co25)) (.slice Ao29 t872.length co29)) (fun _ h_ => h_.1)))); (case side8 => exact (Kd.R_reads' HO874.out).2.1); rintro e w44 ⟨rfl, hb⟩; replace HO853 := Aside0.mk (Kd.Q_below (qT (Kd.Q_mono (qF gb876 1 (qF gb876 0 (Kd.Q_types HO853.out BK876.out (by decide)) (.slice Ao25 t869.length co25)) (.slice Ao29 t872.length co29)) (fun _ h_ => h_.1))) hb); replace HO856 := Aside0.mk (Kd.R_below (rT (Kd.R_mono (rF gb876 1 (rF gb876 0 (rY HO856 BK876) (.slice Ao25 t869.length co25)) (.slice Ao29 t872.length co29)) (fun _ h_ => h_.1))) hb); replace HO859 := Aside0.mk (Kd.R_below (rT (Kd.R_mono (rF gb876 1 (rF gb876 0 (rY HO859 BK876) (.slice Ao25 t869.length co25)) (.slice Ao29 t872.length co29)) (fun _ h_ => h_.1))) hb); replace HO863 := Aside0.mk (Kd.R_below (rT (Kd.R_mono (rF gb876 1 (rF gb876 0 (rY HO863 BK876) (.slice Ao25 t869.length co25)) (.slice Ao29 t872.length co29)) (fun _ h_ => h_.1))) hb); replace HO866 := Aside0.mk (Kd.R_below (rT (Kd.R_mono (rF gb876 1 (rF gb876 0 (rY HO866 BK876) (.slice Ao25 t869.length co25)) (.slice Ao29 t872.length co29)) (fun _ h_ => h_.1))) hb); replace HO871 := Aside0.mk (Kd.R_below (rT (Kd.R_mono (rF gb876 1 (rF gb876 0 (rY HO871 BK876) (.slice Ao25 t869.length co25)) (.slice Ao29 t872.length co29)) (fun _ h_ => h_.1))) hb); replace HO874 := Aside0.mk (Kd.R_below (rT (Kd.R_mono (rF gb876 1 (rF gb876 0 (rY HO874 BK876) (.slice Ao25 t869.length co25)) (.slice Ao29 t872.length co29)) (fun _ h_ => h_.1))) hb); replace BK860 := kG BK860 hb; replace BK868 := kG BK868 hb; replace BK876 := Aside0.mk (blk_below (g := gb876) (o := .cells #[.slice Ao25 t869.length co25, .slice Ao29 t872.length co29] 25 (0, 0)) (by (with_reducible repeat (first | refine blk_drewN ?_ _ | refine blk_drew ?_ | refine blk_alloc ?_ _)); refine blk_put (cs := #[.slice Ao25 t869.length co25, .slice none 0 0]) ?_ 1 _ rfl; (with_reducible repeat (first | refine blk_drewN ?_ _ | refine blk_drew ?_ | refine blk_alloc ?_ _)); refine blk_put (cs := #[.slice none 0 0, .slice none 0 0]) ?_ 0 _ rfl; (with_reducible repeat (first | refine blk_drewN ?_ _ | refine blk_drew ?_ | refine blk_alloc ?_ _)); exact BK876.out) hb); replace HB := bS HB hb; (try clear hb); (try clear hb2); (try clear hk); (try clear hi)))
     go_meet
     case rel => exact ⟨_, (true), eS, H', ⟨by have := HJ2.out; first | omega | exact Nat.le_refl _⟩, ⟨rT (Kd.R_mono HO859.out (fun _ hk => ⟨hk.1.1.1.1.1, ⟨hk.1.1.1.1.2, ⟨hk.1.1.1.2, ⟨hk.1.1.2, ⟨hk.1.2, hk.2⟩⟩⟩⟩⟩))⟩, ⟨qT (Kd.Q_mono HO853.out (fun _ hk => ⟨hk.1.1.1.1.2, ⟨hk.1.1.1.1.1, ⟨hk.1.1.1.2, ⟨hk.1.1.2, ⟨hk.1.2, hk.2⟩⟩⟩⟩⟩))⟩, ⟨rT (Kd.R_mono HO856.out (fun _ hk => ⟨hk.1.1.1.1.2, ⟨hk.1.1.1.1.1, ⟨hk.1.1.1.2, ⟨hk.1.1.2, ⟨hk.1.2, hk.2⟩⟩⟩⟩⟩))⟩, ⟨Kd.Q_of_R (rT (Kd.R_mono HO863.out (fun _ hk => ⟨hk.1.1.2, ⟨hk.1.1.1.1.2, ⟨hk.1.1.1.2, ⟨hk.1.1.1.1.1, ⟨hk.1.2, hk.2⟩⟩⟩⟩⟩)))⟩, ⟨rT (Kd.R_mono HO866.out (fun _ hk => ⟨hk.1.1.2, ⟨hk.1.1.1.1.2, ⟨hk.1.1.1.2, ⟨hk.1.1.1.1.1, ⟨hk.1.2, hk.2⟩⟩⟩⟩⟩))⟩, ⟨Kd.Q_of_R (rT (Kd.R_mono HO871.out (fun _ hk => ⟨hk.1.1.2, ⟨hk.1.1.1.1.2, ⟨hk.1.1.1.2, ⟨hk.1.2, ⟨hk.2, hk.1.1.1.1.1⟩⟩⟩⟩⟩)))⟩, ⟨rT (Kd.R_mono HO874.out (fun _ hk => ⟨hk.1.1.2, ⟨hk.1.1.1.1.2, ⟨hk.1.1.1.2, ⟨hk.1.2, ⟨hk.2, hk.1.1.1.1.1⟩⟩⟩⟩⟩))⟩, ⟨kP BK860⟩, ⟨kP BK868⟩, ⟨kP BK876⟩, ⟨bP HB⟩⟩
    case rest =>
     clear HC9
     try clear c1
     try clear c2
     try clear p2
     try clear c3
     try clear c4
     try clear c4b0
     try clear c4b1
     try clear c5
     try clear c7
     try clear c19
     try clear c24
     try clear c26
     try clear c27
     try clear c30
     try clear c30b0
     try clear c30b1
     try clear c30b2
     try clear c31
     try clear c32
     try clear c33
     try clear c34
     try clear c36
     try clear c39
     try clear c40
     try clear c42
     try clear hcz13_0
     try clear hcz13_1
     try clear hcz20_0
     try clear hcz20_1
     try clear hcz22_0
     try clear hcz22_1
     try clear hcz28_0
     try clear hcz28_1
     try clear hcz35_0
     try clear hcz35_1
     try clear hcz37_0
     try clear hcz37_1
     try clear hcz41_0
     try clear hcz41_1
     try clear hcz43_0
     try clear hcz43_1
     try clear hfz13_0
     try clear hfz13_1
     try clear hfz20_0
     try clear hfz20_1
     try clear hfz22_0
     try clear hfz22_1
     try clear hfz28_0
     try clear hfz28_1
     try clear hfz35_0
     try clear hfz35_1
     try clear hfz37_0
     try clear hfz37_1
     try clear hfz41_0
     try clear hfz41_1
     try clear hfz43_0
     try clear hfz43_1
     try clear p2
     obtain ⟨kq, x57_8, rfl, HA, HJ8, HO_6, HO_861000, HO_861001, HO_869000, HO_869001, HO_877000, HO_877001, BK860, BK868, BK876, HB⟩ := hcut
     cases kq with
     | zero => exact absurd HA.out (by simp [laws_FnRename.j1])
     | succ kj8 =>
      have H := HA.out
      clear HA
      simp only [laws_FnRename.j1] at H
      by_cases c45 : x57_8 = true
      ·subst c45
       replace H : (if (t867 == t875) = true then ((laws_sameMap.f kj8 t861 t864 t869 t872).bind fun t878 => (some t878)) else (some false)) = some r := by rw [if_pos rfl] at H; exact H
       by_cases c46 : (t867 == t875) = true
       ·rw [if_pos c46] at H
        have c46b0 : (t867 == t875) = true := c46
        (try (have c46b1 : decide (t867 = t875) = true := by simpa using c46))
        (try (have c46b2 : (t867 == t875) = true := by simpa using c46))
        clear c46
        replace H := Option.bind_eq_some_iff.mp H
        obtain ⟨t878, A470, H⟩ := H
        replace H : (some t878) = some r := H
        have A47 := Aside0.mk A470
        clear A470
        obtain rfl := Option.some.inj H
        have hnb48 := NB868_860.out
        have hnc48 := NB860_868.out
        have hnb49 := NB868_876.out
        have hnc49 := NB876_868.out
        have hcz50_0 := zc0 BK868
        have hcz50_1 := zc1 BK868
        have hfz50_0 := blk_frozen BK868.out 0
        have hfz50_1 := blk_frozen BK868.out 1
        have hnb51 := NB876_860.out
        have hnc51 := NB860_876.out
        have hcz52_0 := zc0 BK876
        have hcz52_1 := zc1 BK876
        have hfz52_0 := blk_frozen BK876.out 0
        have hfz52_1 := blk_frozen BK876.out 1
        go_wp2_with (first | (go_at_call 22; (with_reducible refine (laws_sameMap.calls kj8 _ _ t861 _ _ t864 _ _ t869 _ _ t872 t878 _ ?side1 ?side2 ?side3 ?side4 ?side5 ?side6 ?side7 ?side8 A47.out).mono ?_); (case side1 => exact cP (Kd.Q_reads' HO_869000.out).2.2); (case side2 => exact (Kd.Q_reads' HO_869000.out).2.1); (case side3 => exact cP (Kd.R_reads' HO_869001.out).2.2); (case side4 => exact (Kd.R_reads' HO_869001.out).2.1); (case side5 => exact cP (Kd.Q_reads' HO_877000.out).2.2); (case side6 => exact (Kd.Q_reads' HO_877000.out).2.1); (case side7 => exact cP (Kd.R_reads' HO_877001.out).2.2); (case side8 => exact (Kd.R_reads' HO_877001.out).2.1); rintro e w53 ⟨rfl, hb⟩; replace HO_6 := rB HO_6 hb; replace HO_861000 := Aside0.mk (Kd.Q_below (qP HO_861000) hb); replace HO_861001 := rB HO_861001 hb; replace HO_869000 := Aside0.mk (Kd.Q_below (qP HO_869000) hb); replace HO_869001 := rB HO_869001 hb; replace HO_877000 := Aside0.mk (Kd.Q_below (qP HO_877000) hb); replace HO_877001 := rB HO_877001 hb; replace BK860 := kB BK860 hb; replace BK868 := kB BK868 hb; replace BK876 := kB BK876 hb; replace HB := bS HB hb; (try clear hb); (try clear hb2); (try clear hk); (try clear hi)))
        go_ret
        exact ⟨eR, bP HB⟩
       rw [if_neg c46] at H
       have c46b0 : (t867 == t875) = false := by simpa using c46
       (try (have c46b1 : decide (t867 = t875) = false := by simpa using c46))
       (try (have c46b2 : (t867 == t875) = false := by simpa using c46))
       (try (have c46b3 : ¬ (t867 = t875) := by simpa using c46))
       clear c46
       exact absurd ((Option.some.inj H).trans hr_.out) (by decide)
      ·replace c45 := Bool.eq_false_iff.mpr c45
       subst c45
       replace H : ((impl_PermBack.f kj8 t857).bind fun bt879 => ((impl_MapRename.f kj8 t861 t864 bt879.1).bind fun bt883 => (if (t851.length : Int) = 0 then (none) else ((impl_MapForm.f kj8 t851 t854 ((l1.length : Int) % (t851.length : Int))).bind fun bt891 => (if 0 ≤ ((l1.length : Int) % (t851.length : Int)) then (if ((l1.length : Int) % (t851.length : Int)) < (t857.length : Int) then ((impl_MapForm.f kj8 t861 t864 (rd t857 ((l1.length : Int) % (t851.length : Int)))).bind fun bt900 => (if bt879.2 = true then (if bt883.2.2 = true then (if bt891.2.2 = true then (if bt900.2.2 = true then ((laws_sameMap.f kj8 bt883.1 bt883.2.1 t851 t854).bind fun t908 => (if t908 = true then ((laws_sameMap.f kj8 bt891.1 bt891.2.1 bt900.1 bt900.2.1).bind fun t909 => (if t909 = true then ((impl_MapSame.f kj8 t851 t854 t861 t864).bind fun t910 => (some t910)) else (some false))) else (some false))) else (some false)) else (some false)) else (some false)) else (some false))) else (none)) else (none)))))) = some r := by rw [if_neg (show ¬ (false = true) by decide)] at H; exact H
       replace H := Option.bind_eq_some_iff.mp H
       obtain ⟨⟨t879, t880⟩, A540, H⟩ := H
       replace H : ((impl_MapRename.f kj8 t861 t864 t879).bind fun bt883 => (if (t851.length : Int) = 0 then (none) else ((impl_MapForm.f kj8 t851 t854 ((l1.length : Int) % (t851.length : Int))).bind fun bt891 => (if 0 ≤ ((l1.length : Int) % (t851.length : Int)) then (if ((l1.length : Int) % (t851.length : Int)) < (t857.length : Int) then ((impl_MapForm.f kj8 t861 t864 (rd t857 ((l1.length : Int) % (t851.length : Int)))).bind fun bt900 => (if t880 = true then (if bt883.2.2 = true then (if bt891.2.2 = true then (if bt900.2.2 = true then ((laws_sameMap.f kj8 bt883.1 bt883.2.1 t851 t854).bind fun t908 => (if t908 = true then ((laws_sameMap.f kj8 bt891.1 bt891.2.1 bt900.1 bt900.2.1).bind fun t909 => (if t909 = true then ((impl_MapSame.f kj8 t851 t854 t861 t864).bind fun t910 => (some t910)) else (some false))) else (some false))) else (some false)) else (some false)) else (some false)) else (some false))) else (none)) else (none))))) = some r := H
       have A54 := Aside0.mk A540
       clear A540
       replace H := Option.bind_eq_some_iff.mp H
       obtain ⟨⟨t883, t886, t889⟩, A550, H⟩ := H
       replace H : (if (t851.length : Int) = 0 then (none) else ((impl_MapForm.f kj8 t851 t854 ((l1.length : Int) % (t851.length : Int))).bind fun bt891 => (if 0 ≤ ((l1.length : Int) % (t851.length : Int)) then (if ((l1.length : Int) % (t851.length : Int)) < (t857.length : Int) then ((impl_MapForm.f kj8 t861 t864 (rd t857 ((l1.length : Int) % (t851.length : Int)))).bind fun bt900 => (if t880 = true then (if t889 = true then (if bt891.2.2 = true then (if bt900.2.2 = true then ((laws_sameMap.f kj8 t883 t886 t851 t854).bind fun t908 => (if t908 = true then ((laws_sameMap.f kj8 bt891.1 bt891.2.1 bt900.1 bt900.2.1).bind fun t909 => (if t909 = true then ((impl_MapSame.f kj8 t851 t854 t861 t864).bind fun t910 => (some t910)) else (some false))) else (some false))) else (some false)) else (some false)) else (some false)) else (some false))) else (none)) else (none)))) = some r := H
       have A55 := Aside0.mk A550
       clear A550
       by_cases c56 : (t851.length : Int) = 0
       ·rw [if_pos c56] at H
        exact absurd H (by simp)
       ·rw [if_neg c56] at H
        have c56b0 : ((t851.length : Int) == 0) = false := beq_eq_false_iff_ne.mpr c56
        have c56b1 : ((t851.length : Int) != 0) = true := bne_iff_ne.mpr c56
        have c56b2 : ¬ (t851 = []) := fun h_ => c56 (by rw [h_]; rfl)
        replace H := Option.bind_eq_some_iff.mp H
        obtain ⟨⟨t891, t894, t897⟩, A570, H⟩ := H
        replace H : (if 0 ≤ ((l1.length : Int) % (t851.length : Int)) then (if ((l1.length : Int) % (t851.length : Int)) < (t857.length : Int) then ((impl_MapForm.f kj8 t861 t864 (rd t857 ((l1.length : Int) % (t851.length : Int)))).bind fun bt900 => (if t880 = true then (if t889 = true then (if t897 = true then (if bt900.2.2 = true then ((laws_sameMap.f kj8 t883 t886 t851 t854).bind fun t908 => (if t908 = true then ((laws_sameMap.f kj8 t891 t894 bt900.1 bt900.2.1).bind fun t909 => (if t909 = true then ((impl_MapSame.f kj8 t851 t854 t861 t864).bind fun t910 => (some t910)) else (some false))) else (some false))) else (some false)) else (some false)) else (some false)) else (some false))) else (none)) else (none)) = some r := H
        have A57 := Aside0.mk A570
        clear A570
        obtain ⟨ji58, hji58⟩ : ∃ j_ : Int, ((l1.length : Int) % (t851.length : Int)) = j_ := ⟨_, rfl⟩
        replace H : (if 0 ≤ (ji58) then (if (ji58) < (t857.length : Int) then ((impl_MapForm.f kj8 t861 t864 (rd t857 (ji58))).bind fun bt900 => (if t880 = true then (if t889 = true then (if t897 = true then (if bt900.2.2 = true then ((laws_sameMap.f kj8 t883 t886 t851 t854).bind fun t908 => (if t908 = true then ((laws_sameMap.f kj8 t891 t894 bt900.1 bt900.2.1).bind fun t909 => (if t909 = true then ((impl_MapSame.f kj8 t851 t854 t861 t864).bind fun t910 => (some t910)) else (some false))) else (some false))) else (some false)) else (some false)) else (some false)) else (some false))) else (none)) else (none)) = some r := by first | (rw [hji58] at H; exact H) | (simp only [hji58] at H ⊢; exact H)
        (try rw [hji58] at A54)
        (try rw [hji58] at A55)
        (try rw [hji58] at A57)
        by_cases c59 : 0 ≤ (ji58)
        ·rw [if_pos c59] at H
         have c59b0 : decide (0 ≤ (ji58)) = true := decide_eq_true c59
         clear c59
         by_cases c60 : (ji58) < (t857.length : Int)
         ·rw [if_pos c60] at H
          have c60b0 : decide ((ji58) < (t857.length : Int)) = true := decide_eq_true c60
          clear c60
          replace H := Option.bind_eq_some_iff.mp H
          obtain ⟨⟨t900, t903, t906⟩, A610, H⟩ := H
          replace H : (if t880 = true then (if t889 = true then (if t897 = true then (if t906 = true then ((laws_sameMap.f kj8 t883 t886 t851 t854).bind fun t908 => (if t908 = true then ((laws_sameMap.f kj8 t891 t894 t900 t903).bind fun t909 => (if t909 = true then ((impl_MapSame.f kj8 t851 t854 t861 t864).bind fun t910 => (some t910)) else (some false))) else (some false))) else (some false)) else (some false)) else (some false)) else (some false)) = some r := H
          have A61 := Aside0.mk A610
          clear A610
          by_cases c62 : t880 = true
          ·subst c62
           replace H : (if t889 = true then (if t897 = true then (if t906 = true then ((laws_sameMap.f kj8 t883 t886 t851 t854).bind fun t908 => (if t908 = true then ((laws_sameMap.f kj8 t891 t894 t900 t903).bind fun t909 => (if t909 = true then ((impl_MapSame.f kj8 t851 t854 t861 t864).bind fun t910 => (some t910)) else (some false))) else (some false))) else (some false)) else (some false)) else (some false)) = some r := by rw [if_pos rfl] at H; exact H
           by_cases c63 : t889 = true
           ·subst c63
            replace H : (if t897 = true then (if t906 = true then ((laws_sameMap.f kj8 t883 t886 t851 t854).bind fun t908 => (if t908 = true then ((laws_sameMap.f kj8 t891 t894 t900 t903).bind fun t909 => (if t909 = true then ((impl_MapSame.f kj8 t851 t854 t861 t864).bind fun t910 => (some t910)) else (some false))) else (some false))) else (some false)) else (some false)) = some r := by rw [if_pos rfl] at H; exact H
            by_cases c64 : t897 = true
            ·subst c64
             replace H : (if t906 = true then ((laws_sameMap.f kj8 t883 t886 t851 t854).bind fun t908 => (if t908 = true then ((laws_sameMap.f kj8 t891 t894 t900 t903).bind fun t909 => (if t909 = true then ((impl_MapSame.f kj8 t851 t854 t861 t864).bind fun t910 => (some t910)) else (some false))) else (some false))) else (some false)) = some r := by rw [if_pos rfl] at H; exact H
             by_cases c65 : t906 = true
             ·subst c65
              replace H : ((laws_sameMap.f kj8 t883 t886 t851 t854).bind fun t908 => (if t908 = true then ((laws_sameMap.f kj8 t891 t894 t900 t903).bind fun t909 => (if t909 = true then ((impl_MapSame.f kj8 t851 t854 t861 t864).bind fun t910 => (some t910)) else (some false))) else (some false))) = some r := by rw [if_pos rfl] at H; exact H
              replace H := Option.bind_eq_some_iff.mp H
              obtain ⟨t908, A660, H⟩ := H
              replace H : (if t908 = true then ((laws_sameMap.f kj8 t891 t894 t900 t903).bind fun t909 => (if t909 = true then ((impl_MapSame.f kj8 t851 t854 t861 t864).bind fun t910 => (some t910)) else (some false))) else (some false)) = some r := H
              have A66 := Aside0.mk A660
              clear A660
              by_cases c67 : t908 = true
              ·subst c67
               replace H : ((laws_sameMap.f kj8 t891 t894 t900 t903).bind fun t909 => (if t909 = true then ((impl_MapSame.f kj8 t851 t854 t861 t864).bind fun t910 => (some t910)) else (some false))) = some r := by rw [if_pos rfl] at H; exact H
               replace H := Option.bind_eq_some_iff.mp H
               obtain ⟨t909, A680, H⟩ := H
               replace H : (if t909 = true then ((impl_MapSame.f kj8 t851 t854 t861 t864).bind fun t910 => (some t910)) else (some false)) = some r := H
               have A68 := Aside0.mk A680
               clear A680
               by_cases c69 : t909 = true
               ·subst c69
                replace H : ((impl_MapSame.f kj8 t851 t854 t861 t864).bind fun t910 => (some t910)) = some r := by rw [if_pos rfl] at H; exact H
                replace H := Option.bind_eq_some_iff.mp H
                obtain ⟨t910, A700, H⟩ := H
                replace H : (some t910) = some r := H
                have A70 := Aside0.mk A700
                clear A700
                obtain rfl := Option.some.inj H
                try go_wp2_with (first | ((with_reducible refine gate_callee (f := 32) rfl ?_); refine gL (some 68) Try.func32 #[.slice Ao15 t857.length co15] ?_; (with_reducible refine (impl_PermBack.calls kj8 _ _ t857 t879 true _ ?side1 ?side2 A54.out).mono ?_); (case side1 => exact cP (Kd.R_reads' HO_6.out).2.2); (case side2 => exact (Kd.R_reads' HO_6.out).2.1); rintro e w71 ⟨v881, rfl, ho0, hb⟩; refine ⟨_, rfl, ?_⟩; have HO882 := Aside0.mk (Kd.R_lower (Kd.R_new' (Kd.R_new' (Kd.R_new' (Kd.R_new' (Kd.R_new' (Kd.R_new' (Kd.R_new' ho0 (Kd.R_lt (rP HO_6))) (Kd.Q_lt (qP HO_861000))) (Kd.R_lt (rP HO_861001))) (Kd.Q_lt (qP HO_869000))) (Kd.R_lt (rP HO_869001))) (Kd.Q_lt (qP HO_877000))) (Kd.R_lt (rP HO_877001))) (below_size (bP HB))); replace HO_6 := Aside0.mk (Kd.R_elder' (rP HO_6) (Kd.R_base ho0) hb); replace HO_861000 := Aside0.mk (Kd.Q_elder' (qP HO_861000) (Kd.R_base ho0) hb); replace HO_861001 := Aside0.mk (Kd.R_elder' (rP HO_861001) (Kd.R_base ho0) hb); replace HO_869000 := Aside0.mk (Kd.Q_elder' (qP HO_869000) (Kd.R_base ho0) hb); replace HO_869001 := Aside0.mk (Kd.R_elder' (rP HO_869001) (Kd.R_base ho0) hb); replace HO_877000 := Aside0.mk (Kd.Q_elder' (qP HO_877000) (Kd.R_base ho0) hb); replace HO_877001 := Aside0.mk (Kd.R_elder' (rP HO_877001) (Kd.R_base ho0) hb); replace BK860 := kB BK860 hb; replace BK868 := kB BK868 hb; replace BK876 := kB BK876 hb; replace HB := bS HB hb; (try clear hb); (try clear hb2); (try clear hk); (try clear hi); (try clear ho0); have hnb72 := NB868_860.out; have hnc72 := NB860_868.out; have hnb73 := NB868_876.out; have hnc73 := NB876_868.out; have hcz74_0 := zc0 BK868; have hcz74_1 := zc1 BK868; have hfz74_0 := blk_frozen BK868.out 0; have hfz74_1 := blk_frozen BK868.out 1; obtain ⟨Ao75, co75, eo75⟩ := Kd.R_slice HO882.out; subst eo75) | ((with_reducible refine gate_callee (f := 24) rfl ?_); refine gL (some 74) Try.func24 #[.agg #[.slice Ao18 t861.length co18, .slice Ao21 t864.length co21], .slice Ao75 t879.length co75] ?_; (with_reducible refine (impl_MapRename.calls kj8 _ _ t861 _ _ t864 _ _ t879 t883 t886 true _ ?side1 ?side2 ?side3 ?side4 ?side5 ?side6 A55.out).mono ?_); (case side1 => exact cP (Kd.Q_reads' HO_869000.out).2.2); (case side2 => exact (Kd.Q_reads' HO_869000.out).2.1); (case side3 => exact cP (Kd.R_reads' HO_869001.out).2.2); (case side4 => exact (Kd.R_reads' HO_869001.out).2.1); (case side5 => exact cP (Kd.R_reads' HO882.out).2.2); (case side6 => exact (Kd.R_reads' HO882.out).2.1); rintro e w76 ⟨v884, v887, rfl, ho0, ho1, hb⟩; refine ⟨_, rfl, ?_⟩; have HO885 := Aside0.mk (Kd.R_lower (Kd.R_new' (Kd.R_new' (Kd.R_new' (Kd.R_new' (Kd.R_new' (Kd.R_new' (Kd.R_new' (Kd.R_new' ho0 (Kd.R_lt (rP HO_6))) (Kd.Q_lt (qP HO_861000))) (Kd.R_lt (rP HO_861001))) (Kd.Q_lt (qP HO_869000))) (Kd.R_lt (rP HO_869001))) (Kd.Q_lt (qP HO_877000))) (Kd.R_lt (rP HO_877001))) (Kd.R_lt (rP HO882))) (below_size (bP HB))); have HO888 := Aside0.mk (Kd.R_lower (Kd.R_new' (Kd.R_new' (Kd.R_new' (Kd.R_new' (Kd.R_new' (Kd.R_new' (Kd.R_new' (Kd.R_new' ho1 (Kd.R_lt (rP HO_6))) (Kd.Q_lt (qP HO_861000))) (Kd.R_lt (rP HO_861001))) (Kd.Q_lt (qP HO_869000))) (Kd.R_lt (rP HO_869001))) (Kd.Q_lt (qP HO_877000))) (Kd.R_lt (rP HO_877001))) (Kd.R_lt (rP HO882))) (below_size (bP HB))); replace HO_6 := Aside0.mk (Kd.R_mono (Kd.R_told (Kd.R_told (Kd.R_old (rP HO_6) hb) (Kd.R_base ho0)) (Kd.R_base ho1)) (fun _ h_ => h_.1)); replace HO_861000 := Aside0.mk (Kd.Q_mono (Kd.Q_told (Kd.Q_told (Kd.Q_old (qP HO_861000) hb) (Kd.R_base ho0)) (Kd.R_base ho1)) (fun _ h_ => h_.1)); replace HO_861001 := Aside0.mk (Kd.R_mono (Kd.R_told (Kd.R_told (Kd.R_old (rP HO_861001) hb) (Kd.R_base ho0)) (Kd.R_base ho1)) (fun _ h_ => h_.1)); replace HO_869000 := Aside0.mk (Kd.Q_mono (Kd.Q_told (Kd.Q_told (Kd.Q_old (qP HO_869000) hb) (Kd.R_base ho0)) (Kd.R_base ho1)) (fun _ h_ => h_.1)); replace HO_869001 := Aside0.mk (Kd.R_mono (Kd.R_told (Kd.R_told (Kd.R_old (rP HO_869001) hb) (Kd.R_base ho0)) (Kd.R_base ho1)) (fun _ h_ => h_.1)); replace HO_877000 := Aside0.mk (Kd.Q_mono (Kd.Q_told (Kd.Q_told (Kd.Q_old (qP HO_877000) hb) (Kd.R_base ho0)) (Kd.R_base ho1)) (fun _ h_ => h_.1)); replace HO_877001 := Aside0.mk (Kd.R_mono (Kd.R_told (Kd.R_told (Kd.R_old (rP HO_877001) hb) (Kd.R_base ho0)) (Kd.R_base ho1)) (fun _ h_ => h_.1)); replace HO882 := Aside0.mk (Kd.R_mono (Kd.R_told (Kd.R_told (Kd.R_old (rP HO882) hb) (Kd.R_base ho0)) (Kd.R_base ho1)) (fun _ h_ => h_.1)); replace BK860 := kB BK860 hb; replace BK868 := kB BK868 hb; replace BK876 := kB BK876 hb; replace HB := bS HB hb; (try clear hb); (try clear hb2); (try clear hk); (try clear hi); (try clear ho0); (try clear ho1)) | ((with_reducible refine gate_dst (N := 13) rfl ?_); (try (refine gate_guard (by rfl) ?_; dsimp only)); refine bE 13 #[.slice none 0 0, .slice none 0 0] 25 ?_; intro gb890 hg w77 hbox hb; replace HO_6 := rB HO_6 hb; replace HO_861000 := Aside0.mk (Kd.Q_below (qP HO_861000) hb); replace HO_861001 := rB HO_861001 hb; replace HO_869000 := Aside0.mk (Kd.Q_below (qP HO_869000) hb); replace HO_869001 := rB HO_869001 hb; replace HO_877000 := Aside0.mk (Kd.Q_below (qP HO_877000) hb); replace HO_877001 := rB HO_877001 hb; replace HO882 := rB HO882 hb; replace HO885 := rB HO885 hb; replace HO888 := rB HO888 hb; have BK890 := Aside0.mk (hbox); have GW890 := gS HB hg; have GE890 := gS HB hg; replace HB := bS HB hb; have NB860_890 := nL BK860 hg; have NB890_860 := nG BK860 hg; replace BK860 := kB BK860 hb; have NB868_890 := nL BK868 hg; have NB890_868 := nG BK868 hg; replace BK868 := kB BK868 hb; have NB876_890 := nL BK876 hg; have NB890_876 := nG BK876 hg; replace BK876 := kB BK876 hb; clear hb hbox hg; obtain ⟨Ao78, co78, eo78⟩ := Kd.R_slice HO885.out; subst eo78; have hnb79 := NB890_860.out; have hnc79 := NB860_890.out; have hnb80 := NB890_868.out; have hnc80 := NB868_890.out; have hnb81 := NB890_876.out; have hnc81 := NB876_890.out; have hcz82_0 := zc0 BK890; have hcz82_1 := zc1 BK890; have hfz82_0 := blk_frozen BK890.out 0; have hfz82_1 := blk_frozen BK890.out 1; obtain ⟨Ao83, co83, eo83⟩ := Kd.R_slice HO888.out; subst eo83; have hnb84 := NB860_876.out; have hnc84 := NB876_860.out; have hcz85_0 := zc0 BK860; have hcz85_1 := zc1 BK860; have hfz85_0 := blk_frozen BK860.out 0; have hfz85_1 := blk_frozen BK860.out 1) | ((with_reducible refine gate_callee (f := 29) rfl ?_); refine goesL_ (some 86) rfl rfl Try.func29 (by kernel_rfl) rfl #[.agg #[.slice Ao12 t851.length co12, .slice Ao14 t854.length co14], .int .i64 ji58] rfl (by (try simp only [List.map_toArray, List.map_cons, List.map_nil]); first | done | (simp only [hji58]; rfl) | rfl | (simp only [List.length_drop, List.length_take]; rfl)) ?_; (with_reducible refine (impl_MapForm.calls kj8 _ _ t851 _ _ t854 ji58 t891 t894 true _ ?side1 ?side2 ?side3 ?side4 A57.out).mono ?_); (case side1 => refine (Kd.Q_reads' (e := 3) (base := w.heap.size) (ok := fun k_ => ((((oN k_ Ao15 t857 co15 ∧ (oN k_ Ao14 t854 co14 ∧ (oN k_ Ao18 t861 co18 ∧ (oN k_ Ao21 t864 co21 ∧ (oN k_ Ao25 t869 co25 ∧ oN k_ Ao29 t872 co29))))) ∧ oN k_ Ao75 t879 co75) ∧ oN k_ Ao78 t883 co78) ∧ oN k_ Ao83 t886 co83)) (n := t851.length) (c := co12) ?_).2.2; exact (qT (Kd.Q_mono (qF gb890 1 (qF gb890 0 (Kd.Q_types HO_861000.out BK890.out (by decide)) (.slice Ao78 t883.length co78)) (.slice Ao83 t886.length co83)) (fun _ h_ => h_.1)))); (case side2 => exact (Kd.Q_reads' HO_861000.out).2.1); (case side3 => refine (Kd.R_reads' (e := 3) (base := w.heap.size) (ok := fun k_ => ((((oN k_ Ao15 t857 co15 ∧ (oN k_ Ao12 t851 co12 ∧ (oN k_ Ao18 t861 co18 ∧ (oN k_ Ao21 t864 co21 ∧ (oN k_ Ao25 t869 co25 ∧ oN k_ Ao29 t872 co29))))) ∧ oN k_ Ao75 t879 co75) ∧ oN k_ Ao78 t883 co78) ∧ oN k_ Ao83 t886 co83)) (n := t854.length) (c := co14) ?_).2.2; exact (rT (Kd.R_mono (rF gb890 1 (rF gb890 0 (rY HO_861001 BK890) (.slice Ao78 t883.length co78)) (.slice Ao83 t886.length co83)) (fun _ h_ => h_.1)))); (case side4 => exact (Kd.R_reads' HO_861001.out).2.1); rintro e w86 ⟨v892, v895, rfl, ho0, ho1, hb⟩; refine ⟨_, rfl, ?_⟩; have HO893 := Aside0.mk (Kd.R_lower (Kd.R_new' (Kd.R_new' (Kd.R_new' (Kd.R_new' (Kd.R_new' (Kd.R_new' (Kd.R_new' (Kd.R_new' (Kd.R_new' (Kd.R_new' ho0 (Kd.R_lt (rT (Kd.R_mono (rF gb890 1 (rF gb890 0 (rY HO_6 BK890) (.slice Ao78 t883.length co78)) (.slice Ao83 t886.length co83)) (fun _ h_ => h_.1))))) (Kd.Q_lt (qT (Kd.Q_mono (qF gb890 1 (qF gb890 0 (Kd.Q_types HO_861000.out BK890.out (by decide)) (.slice Ao78 t883.length co78)) (.slice Ao83 t886.length co83)) (fun _ h_ => h_.1))))) (Kd.R_lt (rT (Kd.R_mono (rF gb890 1 (rF gb890 0 (rY HO_861001 BK890) (.slice Ao78 t883.length co78)) (.slice Ao83 t886.length co83)) (fun _ h_ => h_.1))))) (Kd.Q_lt (qT (Kd.Q_mono (qF gb890 1 (qF gb890 0 (Kd.Q_types HO_869000.out BK890.out (by decide)) (.slice Ao78 t883.length co78)) (.slice Ao83 t886.length co83)) (fun _ h_ => h_.1))))) (Kd.R_lt (rT (Kd.R_mono (rF gb890 1 (rF gb890 0 (rY HO_869001 BK890) (.slice Ao78 t883.length co78)) (.slice Ao83 t886.length co83)) (fun _ h_ => h_.1))))) (Kd.Q_lt (qT (Kd.Q_mono (qF gb890 1 (qF gb890 0 (Kd.Q_types HO_877000.out BK890.out (by decide)) (.slice Ao78 t883.length co78)) (.slice Ao83 t886.length co83)) (fun _ h_ => h_.1))))) (Kd.R_lt (rT (Kd.R_mono (rF gb890 1 (rF gb890 0 (rY HO_877001 BK890) (.slice Ao78 t883.length co78)) (.slice Ao83 t886.length co83)) (fun _ h_ => h_.1))))) (Kd.R_lt (rT (Kd.R_mono (rF gb890 1 (rF gb890 0 (rY HO882 BK890) (.slice Ao78 t883.length co78)) (.slice Ao83 t886.length co83)) (fun _ h_ => h_.1))))) (Kd.R_lt (rT (Kd.R_mono (rF gb890 1 (rF gb890 0 (rY HO885 BK890) (.slice Ao78 t883.length co78)) (.slice Ao83 t886.length co83)) (fun _ h_ => h_.1))))) (Kd.R_lt (rT (Kd.R_mono (rF gb890 1 (rF gb890 0 (rY HO888 BK890) (.slice Ao78 t883.length co78)) (.slice Ao83 t886.length co83)) (fun _ h_ => h_.1))))) (below_size (bP HB))); have HO896 := Aside0.mk (Kd.R_lower (Kd.R_new' (Kd.R_new' (Kd.R_new' (Kd.R_new' (Kd.R_new' (Kd.R_new' (Kd.R_new' (Kd.R_new' (Kd.R_new' (Kd.R_new' ho1 (Kd.R_lt (rT (Kd.R_mono (rF gb890 1 (rF gb890 0 (rY HO_6 BK890) (.slice Ao78 t883.length co78)) (.slice Ao83 t886.length co83)) (fun _ h_ => h_.1))))) (Kd.Q_lt (qT (Kd.Q_mono (qF gb890 1 (qF gb890 0 (Kd.Q_types HO_861000.out BK890.out (by decide)) (.slice Ao78 t883.length co78)) (.slice Ao83 t886.length co83)) (fun _ h_ => h_.1))))) (Kd.R_lt (rT (Kd.R_mono (rF gb890 1 (rF gb890 0 (rY HO_861001 BK890) (.slice Ao78 t883.length co78)) (.slice Ao83 t886.length co83)) (fun _ h_ => h_.1))))) (Kd.Q_lt (qT (Kd.Q_mono (qF gb890 1 (qF gb890 0 (Kd.Q_types HO_869000.out BK890.out (by decide)) (.slice Ao78 t883.length co78)) (.slice Ao83 t886.length co83)) (fun _ h_ => h_.1))))) (Kd.R_lt (rT (Kd.R_mono (rF gb890 1 (rF gb890 0 (rY HO_869001 BK890) (.slice Ao78 t883.length co78)) (.slice Ao83 t886.length co83)) (fun _ h_ => h_.1))))) (Kd.Q_lt (qT (Kd.Q_mono (qF gb890 1 (qF gb890 0 (Kd.Q_types HO_877000.out BK890.out (by decide)) (.slice Ao78 t883.length co78)) (.slice Ao83 t886.length co83)) (fun _ h_ => h_.1))))) (Kd.R_lt (rT (Kd.R_mono (rF gb890 1 (rF gb890 0 (rY HO_877001 BK890) (.slice Ao78 t883.length co78)) (.slice Ao83 t886.length co83)) (fun _ h_ => h_.1))))) (Kd.R_lt (rT (Kd.R_mono (rF gb890 1 (rF gb890 0 (rY HO882 BK890) (.slice Ao78 t883.length co78)) (.slice Ao83 t886.length co83)) (fun _ h_ => h_.1))))) (Kd.R_lt (rT (Kd.R_mono (rF gb890 1 (rF gb890 0 (rY HO885 BK890) (.slice Ao78 t883.length co78)) (.slice Ao83 t886.length co83)) (fun _ h_ => h_.1))))) (Kd.R_lt (rT (Kd.R_mono (rF gb890 1 (rF gb890 0 (rY HO888 BK890) (.slice Ao78 t883.length co78)) (.slice Ao83 t886.length co83)) (fun _ h_ => h_.1))))) (below_size (bP HB))); replace HO_6 := Aside0.mk (Kd.R_mono (Kd.R_told (Kd.R_told (Kd.R_old (rT (Kd.R_mono (rF gb890 1 (rF gb890 0 (rY HO_6 BK890) (.slice Ao78 t883.length co78)) (.slice Ao83 t886.length co83)) (fun _ h_ => h_.1))) hb) (Kd.R_base ho0)) (Kd.R_base ho1)) (fun _ h_ => h_.1)); replace HO_861000 := Aside0.mk (Kd.Q_mono (Kd.Q_told (Kd.Q_told (Kd.Q_old (qT (Kd.Q_mono (qF gb890 1 (qF gb890 0 (Kd.Q_types HO_861000.out BK890.out (by decide)) (.slice Ao78 t883.length co78)) (.slice Ao83 t886.length co83)) (fun _ h_ => h_.1))) hb) (Kd.R_base ho0)) (Kd.R_base ho1)) (fun _ h_ => h_.1)); replace HO_861001 := Aside0.mk (Kd.R_mono (Kd.R_told (Kd.R_told (Kd.R_old (rT (Kd.R_mono (rF gb890 1 (rF gb890 0 (rY HO_861001 BK890) (.slice Ao78 t883.length co78)) (.slice Ao83 t886.length co83)) (fun _ h_ => h_.1))) hb) (Kd.R_base ho0)) (Kd.R_base ho1)) (fun _ h_ => h_.1)); replace HO_869000 := Aside0.mk (Kd.Q_mono (Kd.Q_told (Kd.Q_told (Kd.Q_old (qT (Kd.Q_mono (qF gb890 1 (qF gb890 0 (Kd.Q_types HO_869000.out BK890.out (by decide)) (.slice Ao78 t883.length co78)) (.slice Ao83 t886.length co83)) (fun _ h_ => h_.1))) hb) (Kd.R_base ho0)) (Kd.R_base ho1)) (fun _ h_ => h_.1)); replace HO_869001 := Aside0.mk (Kd.R_mono (Kd.R_told (Kd.R_told (Kd.R_old (rT (Kd.R_mono (rF gb890 1 (rF gb890 0 (rY HO_869001 BK890) (.slice Ao78 t883.length co78)) (.slice Ao83 t886.length co83)) (fun _ h_ => h_.1))) hb) (Kd.R_base ho0)) (Kd.R_base ho1)) (fun _ h_ => h_.1)); replace HO_877000 := Aside0.mk (Kd.Q_mono (Kd.Q_told (Kd.Q_told (Kd.Q_old (qT (Kd.Q_mono (qF gb890 1 (qF gb890 0 (Kd.Q_types HO_877000.out BK890.out (by decide)) (.slice Ao78 t883.length co78)) (.slice Ao83 t886.length co83)) (fun _ h_ => h_.1))) hb) (Kd.R_base ho0)) (Kd.R_base ho1)) (fun _ h_ => h_.1)); replace HO_877001 := Aside0.mk (Kd.R_mono (Kd.R_told (Kd.R_told (Kd.R_old (rT (Kd.R_mono (rF gb890 1 (rF gb890 0 (rY HO_877001 BK890) (.slice Ao78 t883.length co78)) (.slice Ao83 t886.length co83)) (fun _ h_ => h_.1))) hb) (Kd.R_base ho0)) (Kd.R_base ho1)) (fun _ h_ => h_.1)); replace HO882 := Aside0.mk (Kd.R_mono (Kd.R_told (Kd.R_told (Kd.R_old (rT (Kd.R_mono (rF gb890 1 (rF gb890 0 (rY HO882 BK890) (.slice Ao78 t883.length co78)) (.slice Ao83 t886.length co83)) (fun _ h_ => h_.1))) hb) (Kd.R_base ho0)) (Kd.R_base ho1)) (fun _ h_ => h_.1)); replace HO885 := Aside0.mk (Kd.R_mono (Kd.R_told (Kd.R_told (Kd.R_old (rT (Kd.R_mono (rF gb890 1 (rF gb890 0 (rY HO885 BK890) (.slice Ao78 t883.length co78)) (.slice Ao83 t886.length co83)) (fun _ h_ => h_.1))) hb) (Kd.R_base ho0)) (Kd.R_base ho1)) (fun _ h_ => h_.1)); replace HO888 := Aside0.mk (Kd.R_mono (Kd.R_told (Kd.R_told (Kd.R_old (rT (Kd.R_mono (rF gb890 1 (rF gb890 0 (rY HO888 BK890) (.slice Ao78 t883.length co78)) (.slice Ao83 t886.length co83)) (fun _ h_ => h_.1))) hb) (Kd.R_base ho0)) (Kd.R_base ho1)) (fun _ h_ => h_.1)); replace BK860 := kG BK860 hb; replace BK868 := kG BK868 hb; replace BK876 := kG BK876 hb; replace BK890 := Aside0.mk (blk_below (g := gb890) (o := .cells #[.slice Ao78 t883.length co78, .slice Ao83 t886.length co83] 25 (0, 0)) (by (with_reducible repeat (first | refine blk_drewN ?_ _ | refine blk_drew ?_ | refine blk_alloc ?_ _)); refine blk_put (cs := #[.slice Ao78 t883.length co78, .slice none 0 0]) ?_ 1 _ rfl; (with_reducible repeat (first | refine blk_drewN ?_ _ | refine blk_drew ?_ | refine blk_alloc ?_ _)); refine blk_put (cs := #[.slice none 0 0, .slice none 0 0]) ?_ 0 _ rfl; (with_reducible repeat (first | refine blk_drewN ?_ _ | refine blk_drew ?_ | refine blk_alloc ?_ _)); exact BK890.out) hb); replace HB := bS HB hb; (try clear hb); (try clear hb2); (try clear hk); (try clear hi); (try clear ho0); (try clear ho1)) | ((with_reducible refine gate_dst (N := 16) rfl ?_); (try (refine gate_guard (by rfl) ?_; dsimp only)); refine bE 16 #[.slice none 0 0, .slice none 0 0] 25 ?_; intro gb898 hg w87 hbox hb; replace HO_6 := rB HO_6 hb; replace HO_861000 := Aside0.mk (Kd.Q_below (qP HO_861000) hb); replace HO_861001 := rB HO_861001 hb; replace HO_869000 := Aside0.mk (Kd.Q_below (qP HO_869000) hb); replace HO_869001 := rB HO_869001 hb; replace HO_877000 := Aside0.mk (Kd.Q_below (qP HO_877000) hb); replace HO_877001 := rB HO_877001 hb; replace HO882 := rB HO882 hb; replace HO885 := rB HO885 hb; replace HO888 := rB HO888 hb; replace HO893 := rB HO893 hb; replace HO896 := rB HO896 hb; have BK898 := Aside0.mk (hbox); have GW898 := gS HB hg; have GE898 := gS HB hg; replace HB := bS HB hb; have NB860_898 := nL BK860 hg; have NB898_860 := nG BK860 hg; replace BK860 := kB BK860 hb; have NB868_898 := nL BK868 hg; have NB898_868 := nG BK868 hg; replace BK868 := kB BK868 hb; have NB876_898 := nL BK876 hg; have NB898_876 := nG BK876 hg; replace BK876 := kB BK876 hb; have NB890_898 := nL BK890 hg; have NB898_890 := nG BK890 hg; replace BK890 := kB BK890 hb; clear hb hbox hg; obtain ⟨Ao88, co88, eo88⟩ := Kd.R_slice HO893.out; subst eo88; have hnb89 := NB898_860.out; have hnc89 := NB860_898.out; have hnb90 := NB898_868.out; have hnc90 := NB868_898.out; have hnb91 := NB898_876.out; have hnc91 := NB876_898.out; have hnb92 := NB898_890.out; have hnc92 := NB890_898.out; have hcz93_0 := zc0 BK898; have hcz93_1 := zc1 BK898; have hfz93_0 := blk_frozen BK898.out 0; have hfz93_1 := blk_frozen BK898.out 1; obtain ⟨Ao94, co94, eo94⟩ := Kd.R_slice HO896.out; subst eo94))
                have n0_ : Aside0 (Kd.R (Kd.int .i64) 3 ((w87.setCell ⟨gb898, 0, none⟩ (.slice Ao88 t891.length co88)).setCell ⟨gb898, 1, none⟩ (.slice Ao94 t894.length co94)) w.heap.size (fun k_ => oN k_ Ao12 t851 co12 ∧ oN k_ Ao14 t854 co14 ∧ oN k_ Ao18 t861 co18 ∧ oN k_ Ao21 t864 co21 ∧ oN k_ Ao25 t869 co25 ∧ oN k_ Ao29 t872 co29 ∧ oN k_ Ao75 t879 co75 ∧ oN k_ Ao78 t883 co78 ∧ oN k_ Ao83 t886 co83 ∧ oN k_ Ao88 t891 co88 ∧ oN k_ Ao94 t894 co94) (.slice Ao15 t857.length co15) t857) := ⟨rT (Kd.R_mono (rF gb898 1 (rF gb898 0 (rY HO_6 BK898) (.slice Ao88 t891.length co88)) (.slice Ao94 t894.length co94)) (fun _ hk => ⟨hk.1.1.1.1.1.1.1, ⟨hk.1.1.1.1.1.1.2.1, ⟨hk.1.1.1.1.1.1.2.2.1, ⟨hk.1.1.1.1.1.1.2.2.2.1, ⟨hk.1.1.1.1.1.1.2.2.2.2.1, ⟨hk.1.1.1.1.1.1.2.2.2.2.2, ⟨hk.1.1.1.1.1.2, ⟨hk.1.1.1.1.2, ⟨hk.1.1.1.2, ⟨hk.1.1.2, hk.1.2⟩⟩⟩⟩⟩⟩⟩⟩⟩⟩))⟩
                have n1_ : Aside0 (Kd.Q (Kd.int .i64) 3 ((w87.setCell ⟨gb898, 0, none⟩ (.slice Ao88 t891.length co88)).setCell ⟨gb898, 1, none⟩ (.slice Ao94 t894.length co94)) w.heap.size (fun k_ => oN k_ Ao15 t857 co15 ∧ oN k_ Ao14 t854 co14 ∧ oN k_ Ao18 t861 co18 ∧ oN k_ Ao21 t864 co21 ∧ oN k_ Ao25 t869 co25 ∧ oN k_ Ao29 t872 co29 ∧ oN k_ Ao75 t879 co75 ∧ oN k_ Ao78 t883 co78 ∧ oN k_ Ao83 t886 co83 ∧ oN k_ Ao88 t891 co88 ∧ oN k_ Ao94 t894 co94) (.slice Ao12 t851.length co12) t851) := ⟨qT (Kd.Q_mono (qF gb898 1 (qF gb898 0 (Kd.Q_types HO_861000.out BK898.out (by decide)) (.slice Ao88 t891.length co88)) (.slice Ao94 t894.length co94)) (fun _ hk => ⟨hk.1.1.1.1.1.1.1, ⟨hk.1.1.1.1.1.1.2.1, ⟨hk.1.1.1.1.1.1.2.2.1, ⟨hk.1.1.1.1.1.1.2.2.2.1, ⟨hk.1.1.1.1.1.1.2.2.2.2.1, ⟨hk.1.1.1.1.1.1.2.2.2.2.2, ⟨hk.1.1.1.1.1.2, ⟨hk.1.1.1.1.2, ⟨hk.1.1.1.2, ⟨hk.1.1.2, hk.1.2⟩⟩⟩⟩⟩⟩⟩⟩⟩⟩))⟩
                have n2_ : Aside0 (Kd.R (Kd.int .i64) 3 ((w87.setCell ⟨gb898, 0, none⟩ (.slice Ao88 t891.length co88)).setCell ⟨gb898, 1, none⟩ (.slice Ao94 t894.length co94)) w.heap.size (fun k_ => oN k_ Ao15 t857 co15 ∧ oN k_ Ao12 t851 co12 ∧ oN k_ Ao18 t861 co18 ∧ oN k_ Ao21 t864 co21 ∧ oN k_ Ao25 t869 co25 ∧ oN k_ Ao29 t872 co29 ∧ oN k_ Ao75 t879 co75 ∧ oN k_ Ao78 t883 co78 ∧ oN k_ Ao83 t886 co83 ∧ oN k_ Ao88 t891 co88 ∧ oN k_ Ao94 t894 co94) (.slice Ao14 t854.length co14) t854) := ⟨rT (Kd.R_mono (rF gb898 1 (rF gb898 0 (rY HO_861001 BK898) (.slice Ao88 t891.length co88)) (.slice Ao94 t894.length co94)) (fun _ hk => ⟨hk.1.1.1.1.1.1.1, ⟨hk.1.1.1.1.1.1.2.1, ⟨hk.1.1.1.1.1.1.2.2.1, ⟨hk.1.1.1.1.1.1.2.2.2.1, ⟨hk.1.1.1.1.1.1.2.2.2.2.1, ⟨hk.1.1.1.1.1.1.2.2.2.2.2, ⟨hk.1.1.1.1.1.2, ⟨hk.1.1.1.1.2, ⟨hk.1.1.1.2, ⟨hk.1.1.2, hk.1.2⟩⟩⟩⟩⟩⟩⟩⟩⟩⟩))⟩
                have n3_ : Aside0 (Kd.Q (Kd.int .i64) 3 ((w87.setCell ⟨gb898, 0, none⟩ (.slice Ao88 t891.length co88)).setCell ⟨gb898, 1, none⟩ (.slice Ao94 t894.length co94)) w.heap.size (fun k_ => oN k_ Ao15 t857 co15 ∧ oN k_ Ao12 t851 co12 ∧ oN k_ Ao14 t854 co14 ∧ oN k_ Ao21 t864 co21 ∧ oN k_ Ao25 t869 co25 ∧ oN k_ Ao29 t872 co29 ∧ oN k_ Ao75 t879 co75 ∧ oN k_ Ao78 t883 co78 ∧ oN k_ Ao83 t886 co83 ∧ oN k_ Ao88 t891 co88 ∧ oN k_ Ao94 t894 co94) (.slice Ao18 t861.length co18) t861) := ⟨qT (Kd.Q_mono (qF gb898 1 (qF gb898 0 (Kd.Q_types HO_869000.out BK898.out (by decide)) (.slice Ao88 t891.length co88)) (.slice Ao94 t894.length co94)) (fun _ hk => ⟨hk.1.1.1.1.1.1.1, ⟨hk.1.1.1.1.1.1.2.1, ⟨hk.1.1.1.1.1.1.2.2.1, ⟨hk.1.1.1.1.1.1.2.2.2.1, ⟨hk.1.1.1.1.1.1.2.2.2.2.1, ⟨hk.1.1.1.1.1.1.2.2.2.2.2, ⟨hk.1.1.1.1.1.2, ⟨hk.1.1.1.1.2, ⟨hk.1.1.1.2, ⟨hk.1.1.2, hk.1.2⟩⟩⟩⟩⟩⟩⟩⟩⟩⟩))⟩
                have n4_ : Aside0 (Kd.R (Kd.int .i64) 3 ((w87.setCell ⟨gb898, 0, none⟩ (.slice Ao88 t891.length co88)).setCell ⟨gb898, 1, none⟩ (.slice Ao94 t894.length co94)) w.heap.size (fun k_ => oN k_ Ao15 t857 co15 ∧ oN k_ Ao12 t851 co12 ∧ oN k_ Ao14 t854 co14 ∧ oN k_ Ao18 t861 co18 ∧ oN k_ Ao25 t869 co25 ∧ oN k_ Ao29 t872 co29 ∧ oN k_ Ao75 t879 co75 ∧ oN k_ Ao78 t883 co78 ∧ oN k_ Ao83 t886 co83 ∧ oN k_ Ao88 t891 co88 ∧ oN k_ Ao94 t894 co94) (.slice Ao21 t864.length co21) t864) := ⟨rT (Kd.R_mono (rF gb898 1 (rF gb898 0 (rY HO_869001 BK898) (.slice Ao88 t891.length co88)) (.slice Ao94 t894.length co94)) (fun _ hk => ⟨hk.1.1.1.1.1.1.1, ⟨hk.1.1.1.1.1.1.2.1, ⟨hk.1.1.1.1.1.1.2.2.1, ⟨hk.1.1.1.1.1.1.2.2.2.1, ⟨hk.1.1.1.1.1.1.2.2.2.2.1, ⟨hk.1.1.1.1.1.1.2.2.2.2.2, ⟨hk.1.1.1.1.1.2, ⟨hk.1.1.1.1.2, ⟨hk.1.1.1.2, ⟨hk.1.1.2, hk.1.2⟩⟩⟩⟩⟩⟩⟩⟩⟩⟩))⟩
                have n5_ : Aside0 (Kd.Q (Kd.int .i64) 3 ((w87.setCell ⟨gb898, 0, none⟩ (.slice Ao88 t891.length co88)).setCell ⟨gb898, 1, none⟩ (.slice Ao94 t894.length co94)) w.heap.size (fun k_ => oN k_ Ao15 t857 co15 ∧ oN k_ Ao12 t851 co12 ∧ oN k_ Ao14 t854 co14 ∧ oN k_ Ao18 t861 co18 ∧ oN k_ Ao21 t864 co21 ∧ oN k_ Ao29 t872 co29 ∧ oN k_ Ao75 t879 co75 ∧ oN k_ Ao78 t883 co78 ∧ oN k_ Ao83 t886 co83 ∧ oN k_ Ao88 t891 co88 ∧ oN k_ Ao94 t894 co94) (.slice Ao25 t869.length co25) t869) := ⟨qT (Kd.Q_mono (qF gb898 1 (qF gb898 0 (Kd.Q_types HO_877000.out BK898.out (by decide)) (.slice Ao88 t891.length co88)) (.slice Ao94 t894.length co94)) (fun _ hk => ⟨hk.1.1.1.1.1.1.1, ⟨hk.1.1.1.1.1.1.2.1, ⟨hk.1.1.1.1.1.1.2.2.1, ⟨hk.1.1.1.1.1.1.2.2.2.1, ⟨hk.1.1.1.1.1.1.2.2.2.2.1, ⟨hk.1.1.1.1.1.1.2.2.2.2.2, ⟨hk.1.1.1.1.1.2, ⟨hk.1.1.1.1.2, ⟨hk.1.1.1.2, ⟨hk.1.1.2, hk.1.2⟩⟩⟩⟩⟩⟩⟩⟩⟩⟩))⟩
                have n6_ : Aside0 (Kd.R (Kd.int .i64) 3 ((w87.setCell ⟨gb898, 0, none⟩ (.slice Ao88 t891.length co88)).setCell ⟨gb898, 1, none⟩ (.slice Ao94 t894.length co94)) w.heap.size (fun k_ => oN k_ Ao15 t857 co15 ∧ oN k_ Ao12 t851 co12 ∧ oN k_ Ao14 t854 co14 ∧ oN k_ Ao18 t861 co18 ∧ oN k_ Ao21 t864 co21 ∧ oN k_ Ao25 t869 co25 ∧ oN k_ Ao75 t879 co75 ∧ oN k_ Ao78 t883 co78 ∧ oN k_ Ao83 t886 co83 ∧ oN k_ Ao88 t891 co88 ∧ oN k_ Ao94 t894 co94) (.slice Ao29 t872.length co29) t872) := ⟨rT (Kd.R_mono (rF gb898 1 (rF gb898 0 (rY HO_877001 BK898) (.slice Ao88 t891.length co88)) (.slice Ao94 t894.length co94)) (fun _ hk => ⟨hk.1.1.1.1.1.1.1, ⟨hk.1.1.1.1.1.1.2.1, ⟨hk.1.1.1.1.1.1.2.2.1, ⟨hk.1.1.1.1.1.1.2.2.2.1, ⟨hk.1.1.1.1.1.1.2.2.2.2.1, ⟨hk.1.1.1.1.1.1.2.2.2.2.2, ⟨hk.1.1.1.1.1.2, ⟨hk.1.1.1.1.2, ⟨hk.1.1.1.2, ⟨hk.1.1.2, hk.1.2⟩⟩⟩⟩⟩⟩⟩⟩⟩⟩))⟩
                have n7_ : Aside0 (Kd.R (Kd.int .i64) 3 ((w87.setCell ⟨gb898, 0, none⟩ (.slice Ao88 t891.length co88)).setCell ⟨gb898, 1, none⟩ (.slice Ao94 t894.length co94)) w.heap.size (fun k_ => oN k_ Ao15 t857 co15 ∧ oN k_ Ao12 t851 co12 ∧ oN k_ Ao14 t854 co14 ∧ oN k_ Ao18 t861 co18 ∧ oN k_ Ao21 t864 co21 ∧ oN k_ Ao25 t869 co25 ∧ oN k_ Ao29 t872 co29 ∧ oN k_ Ao78 t883 co78 ∧ oN k_ Ao83 t886 co83 ∧ oN k_ Ao88 t891 co88 ∧ oN k_ Ao94 t894 co94) (.slice Ao75 t879.length co75) t879) := ⟨rT (Kd.R_mono (rF gb898 1 (rF gb898 0 (rY HO882 BK898) (.slice Ao88 t891.length co88)) (.slice Ao94 t894.length co94)) (fun _ hk => ⟨hk.1.1.1.1.1.1.1.1.1.1.1.2, ⟨hk.1.1.1.1.1.1.1.1.1.1.2, ⟨hk.1.1.1.1.1.1.1.1.1.2, ⟨hk.1.1.1.1.1.1.1.1.2, ⟨hk.1.1.1.1.1.1.1.2, ⟨hk.1.1.1.1.1.1.2, ⟨hk.1.1.1.1.1.2, ⟨hk.1.1.1.1.2, ⟨hk.1.1.1.2, ⟨hk.1.1.2, hk.1.2⟩⟩⟩⟩⟩⟩⟩⟩⟩⟩))⟩
                have n8_ : Aside0 (Kd.R (Kd.int .i64) 3 ((w87.setCell ⟨gb898, 0, none⟩ (.slice Ao88 t891.length co88)).setCell ⟨gb898, 1, none⟩ (.slice Ao94 t894.length co94)) w.heap.size (fun k_ => oN k_ Ao15 t857 co15 ∧ oN k_ Ao12 t851 co12 ∧ oN k_ Ao14 t854 co14 ∧ oN k_ Ao18 t861 co18 ∧ oN k_ Ao21 t864 co21 ∧ oN k_ Ao25 t869 co25 ∧ oN k_ Ao29 t872 co29 ∧ oN k_ Ao75 t879 co75 ∧ oN k_ Ao83 t886 co83 ∧ oN k_ Ao88 t891 co88 ∧ oN k_ Ao94 t894 co94) (.slice Ao78 t883.length co78) t883) := ⟨rT (Kd.R_mono (rF gb898 1 (rF gb898 0 (rY HO885 BK898) (.slice Ao88 t891.length co88)) (.slice Ao94 t894.length co94)) (fun _ hk => ⟨hk.1.1.1.1.1.1.1.1.1.1.2, ⟨hk.1.1.1.1.1.1.1.1.1.2, ⟨hk.1.1.1.1.1.1.1.1.2, ⟨hk.1.1.1.1.1.1.1.2, ⟨hk.1.1.1.1.1.1.2, ⟨hk.1.1.1.1.1.2, ⟨hk.1.1.1.1.2, ⟨hk.1.1.1.2, ⟨hk.1.1.1.1.1.1.1.1.1.1.1, ⟨hk.1.1.2, hk.1.2⟩⟩⟩⟩⟩⟩⟩⟩⟩⟩))⟩
                have n9_ : Aside0 (Kd.R (Kd.int .i64) 3 ((w87.setCell ⟨gb898, 0, none⟩ (.slice Ao88 t891.length co88)).setCell ⟨gb898, 1, none⟩ (.slice Ao94 t894.length co94)) w.heap.size (fun k_ => oN k_ Ao15 t857 co15 ∧ oN k_ Ao12 t851 co12 ∧ oN k_ Ao14 t854 co14 ∧ oN k_ Ao18 t861 co18 ∧ oN k_ Ao21 t864 co21 ∧ oN k_ Ao25 t869 co25 ∧ oN k_ Ao29 t872 co29 ∧ oN k_ Ao75 t879 co75 ∧ oN k_ Ao78 t883 co78 ∧ oN k_ Ao88 t891 co88 ∧ oN k_ Ao94 t894 co94) (.slice Ao83 t886.length co83) t886) := ⟨rT (Kd.R_mono (rF gb898 1 (rF gb898 0 (rY HO888 BK898) (.slice Ao88 t891.length co88)) (.slice Ao94 t894.length co94)) (fun _ hk => ⟨hk.1.1.1.1.1.1.1.1.1.1.2, ⟨hk.1.1.1.1.1.1.1.1.1.2, ⟨hk.1.1.1.1.1.1.1.1.2, ⟨hk.1.1.1.1.1.1.1.2, ⟨hk.1.1.1.1.1.1.2, ⟨hk.1.1.1.1.1.2, ⟨hk.1.1.1.1.2, ⟨hk.1.1.1.2, ⟨hk.1.1.1.1.1.1.1.1.1.1.1, ⟨hk.1.1.2, hk.1.2⟩⟩⟩⟩⟩⟩⟩⟩⟩⟩))⟩
                have n10_ : Aside0 (Kd.R (Kd.int .i64) 3 ((w87.setCell ⟨gb898, 0, none⟩ (.slice Ao88 t891.length co88)).setCell ⟨gb898, 1, none⟩ (.slice Ao94 t894.length co94)) w.heap.size (fun k_ => oN k_ Ao15 t857 co15 ∧ oN k_ Ao12 t851 co12 ∧ oN k_ Ao14 t854 co14 ∧ oN k_ Ao18 t861 co18 ∧ oN k_ Ao21 t864 co21 ∧ oN k_ Ao25 t869 co25 ∧ oN k_ Ao29 t872 co29 ∧ oN k_ Ao75 t879 co75 ∧ oN k_ Ao78 t883 co78 ∧ oN k_ Ao83 t886 co83 ∧ oN k_ Ao94 t894 co94) (.slice Ao88 t891.length co88) t891) := ⟨rT (Kd.R_mono (rF gb898 1 (rF gb898 0 (rY HO893 BK898) (.slice Ao88 t891.length co88)) (.slice Ao94 t894.length co94)) (fun _ hk => ⟨hk.1.1.1.1.1.1.1.1.1.1.2, ⟨hk.1.1.1.1.1.1.1.1.1.2, ⟨hk.1.1.1.1.1.1.1.1.2, ⟨hk.1.1.1.1.1.1.1.2, ⟨hk.1.1.1.1.1.1.2, ⟨hk.1.1.1.1.1.2, ⟨hk.1.1.1.1.2, ⟨hk.1.1.1.2, ⟨hk.1.1.2, ⟨hk.1.2, hk.1.1.1.1.1.1.1.1.1.1.1⟩⟩⟩⟩⟩⟩⟩⟩⟩⟩))⟩
                have n11_ : Aside0 (Kd.R (Kd.int .i64) 3 ((w87.setCell ⟨gb898, 0, none⟩ (.slice Ao88 t891.length co88)).setCell ⟨gb898, 1, none⟩ (.slice Ao94 t894.length co94)) w.heap.size (fun k_ => oN k_ Ao15 t857 co15 ∧ oN k_ Ao12 t851 co12 ∧ oN k_ Ao14 t854 co14 ∧ oN k_ Ao18 t861 co18 ∧ oN k_ Ao21 t864 co21 ∧ oN k_ Ao25 t869 co25 ∧ oN k_ Ao29 t872 co29 ∧ oN k_ Ao75 t879 co75 ∧ oN k_ Ao78 t883 co78 ∧ oN k_ Ao83 t886 co83 ∧ oN k_ Ao88 t891 co88) (.slice Ao94 t894.length co94) t894) := ⟨rT (Kd.R_mono (rF gb898 1 (rF gb898 0 (rY HO896 BK898) (.slice Ao88 t891.length co88)) (.slice Ao94 t894.length co94)) (fun _ hk => ⟨hk.1.1.1.1.1.1.1.1.1.1.2, ⟨hk.1.1.1.1.1.1.1.1.1.2, ⟨hk.1.1.1.1.1.1.1.1.2, ⟨hk.1.1.1.1.1.1.1.2, ⟨hk.1.1.1.1.1.1.2, ⟨hk.1.1.1.1.1.2, ⟨hk.1.1.1.1.2, ⟨hk.1.1.1.2, ⟨hk.1.1.2, ⟨hk.1.2, hk.1.1.1.1.1.1.1.1.1.1.1⟩⟩⟩⟩⟩⟩⟩⟩⟩⟩))⟩
                have n12_ : Aside0 (((w87.setCell ⟨gb898, 0, none⟩ (.slice Ao88 t891.length co88)).setCell ⟨gb898, 1, none⟩ (.slice Ao94 t894.length co94)).heap[gb860]? = some (.cells #[.slice Ao12 t851.length co12, .slice Ao14 t854.length co14] 25 (0, 0))) := ⟨kF BK860⟩
                have n13_ : Aside0 (((w87.setCell ⟨gb898, 0, none⟩ (.slice Ao88 t891.length co88)).setCell ⟨gb898, 1, none⟩ (.slice Ao94 t894.length co94)).heap[gb868]? = some (.cells #[.slice Ao18 t861.length co18, .slice Ao21 t864.length co21] 25 (0, 0))) := ⟨kF BK868⟩
                have n14_ : Aside0 (((w87.setCell ⟨gb898, 0, none⟩ (.slice Ao88 t891.length co88)).setCell ⟨gb898, 1, none⟩ (.slice Ao94 t894.length co94)).heap[gb876]? = some (.cells #[.slice Ao25 t869.length co25, .slice Ao29 t872.length co29] 25 (0, 0))) := ⟨kF BK876⟩
                have n15_ : Aside0 (((w87.setCell ⟨gb898, 0, none⟩ (.slice Ao88 t891.length co88)).setCell ⟨gb898, 1, none⟩ (.slice Ao94 t894.length co94)).heap[gb890]? = some (.cells #[.slice Ao78 t883.length co78, .slice Ao83 t886.length co83] 25 (0, 0))) := ⟨kF BK890⟩
                have n16_ : Aside0 (((w87.setCell ⟨gb898, 0, none⟩ (.slice Ao88 t891.length co88)).setCell ⟨gb898, 1, none⟩ (.slice Ao94 t894.length co94)).heap[gb898]? = some (.cells #[.slice Ao88 t891.length co88, .slice Ao94 t894.length co94] 25 (0, 0))) := ⟨by (with_reducible repeat (first | refine blk_drewN ?_ _ | refine blk_drew ?_ | refine blk_alloc ?_ _)); refine blk_put (cs := #[.slice Ao88 t891.length co88, .slice none 0 0]) ?_ 1 _ rfl; (with_reducible repeat (first | refine blk_drewN ?_ _ | refine blk_drew ?_ | refine blk_alloc ?_ _)); refine blk_put (cs := #[.slice none 0 0, .slice none 0 0]) ?_ 0 _ rfl; (with_reducible repeat (first | refine blk_drewN ?_ _ | refine blk_drew ?_ | refine blk_alloc ?_ _)); exact BK898.out⟩
                have n17_ : Aside0 (Below w.heap.size w ((w87.setCell ⟨gb898, 0, none⟩ (.slice Ao88 t891.length co88)).setCell ⟨gb898, 1, none⟩ (.slice Ao94 t894.length co94))) := ⟨bP HB⟩
                (try clear HO_6)
                (try clear HO_861000)
                (try clear HO_861001)
                (try clear HO_869000)
                (try clear HO_869001)
                (try clear HO_877000)
                (try clear HO_877001)
                (try clear HO882)
                (try clear HO885)
                (try clear HO888)
                (try clear HO893)
                (try clear HO896)
                (try clear BK860)
                (try clear BK868)
                (try clear BK876)
                (try clear BK890)
                (try clear BK898)
                (try clear HB)
                generalize ((w87.setCell ⟨gb898, 0, none⟩ (.slice Ao88 t891.length co88)).setCell ⟨gb898, 1, none⟩ (.slice Ao94 t894.length co94)) = w95 at n0_ n1_ n2_ n3_ n4_ n5_ n6_ n7_ n8_ n9_ n10_ n11_ n12_ n13_ n14_ n15_ n16_ n17_ ⊢
                have HO_6 := n0_
                have HO_861000 := n1_
                have HO_861001 := n2_
                have HO_869000 := n3_
                have HO_869001 := n4_
                have HO_877000 := n5_
                have HO_877001 := n6_
                have HO882 := n7_
                have HO885 := n8_
                have HO888 := n9_
                have HO893 := n10_
                have HO896 := n11_
                have BK860 := n12_
                have BK868 := n13_
                have BK876 := n14_
                have BK890 := n15_
                have BK898 := n16_
                have HB := n17_
                clear n0_ n1_ n2_ n3_ n4_ n5_ n6_ n7_ n8_ n9_ n10_ n11_ n12_ n13_ n14_ n15_ n16_ n17_
                replace HO_6 := Aside0.mk (Kd.R_drew HO_6.out)
                replace HO_861000 := Aside0.mk (Kd.Q_drew HO_861000.out)
                replace HO_861001 := Aside0.mk (Kd.R_drew HO_861001.out)
                replace HO_869000 := Aside0.mk (Kd.Q_drew HO_869000.out)
                replace HO_869001 := Aside0.mk (Kd.R_drew HO_869001.out)
                replace HO_877000 := Aside0.mk (Kd.Q_drew HO_877000.out)
                replace HO_877001 := Aside0.mk (Kd.R_drew HO_877001.out)
                replace HO882 := Aside0.mk (Kd.R_drew HO882.out)
                replace HO885 := Aside0.mk (Kd.R_drew HO885.out)
                replace HO888 := Aside0.mk (Kd.R_drew HO888.out)
                replace HO893 := Aside0.mk (Kd.R_drew HO893.out)
                replace HO896 := Aside0.mk (Kd.R_drew HO896.out)
                replace BK860 := Aside0.mk (blk_drew BK860.out)
                replace BK868 := Aside0.mk (blk_drew BK868.out)
                replace BK876 := Aside0.mk (blk_drew BK876.out)
                replace BK890 := Aside0.mk (blk_drew BK890.out)
                replace BK898 := Aside0.mk (blk_drew BK898.out)
                replace HB := Aside0.mk (below_drew1 HB.out)
                have p899 : 0 ≤ ((ji58) : Int) := dT
                have q899 : (ji58) < (t857.length : Int) := dT
                obtain ⟨ad899, e899, hx899_0⟩ := Kd.at_int (Kd.R_reads' HO_6.out).2.2 (ji58) p899 q899
                cases e899
                replace p899 := eq_true p899
                replace q899 := eq_true q899
                refine start_ (n := 12) (S := fun w' => w'.cell? ⟨gb868, 0, none⟩ = some (.slice Ao18 t861.length co18) ∧ w'.cell? ⟨gb868, 1, none⟩ = some (.slice Ao21 t864.length co21) ∧ w'.cell? (ad899.add ((ji58)).toNat) = some (.int .i64 (rd t857 (ji58)))) (ds := []) #[false, false, false, false, false, false, false, false, false, false, false, false] (by kernel_rfl) rfl rfl ⟨(blk_cell BK868.out 0).trans rfl, (blk_cell BK868.out 1).trans rfl, hx899_0⟩ (fun hHeld => ?_); refine with_tabW laws_FnRename.tab12 laws_FnRename.bits12 (fun HT_ HW_ => ?_)
                generalize w95.drew = w96 at HO_6 HO_861000 HO_861001 HO_869000 HO_869001 HO_877000 HO_877001 HO882 HO885 HO888 HO893 HO896 BK860 BK868 BK876 BK890 BK898 HB hx899_0 hHeld ⊢
                refine pure_ (i := 1) (N := some 91) (v := ?_) (a' := ?_) #[false, true, false, false, false, false, false, false, false, false, false, false] rfl rfl (any_of HT_.out (by kernel_rfl)) (fun _ _ _ h => h) (Or.inl ⟨by rfl, ?_⟩) ?_ ?_
                rotate_left
                ·intro w'
                 go_simp
                 with_reducible rfl
                rotate_left
                ·simp only [Act.put, List.setIfInBounds_toArray, List.set_cons_zero, List.set_cons_succ, i64_w, i32_w]
                 rfl
                refine pure_ (i := 2) (N := some 92) (v := ?_) (a' := ?_) #[false, true, true, false, false, false, false, false, false, false, false, false] rfl rfl (any_of HT_.out (by kernel_rfl)) (fun _ _ _ h => h) (Or.inl ⟨by rfl, ?_⟩) ?_ ?_
                rotate_left
                ·intro w'
                 go_simp
                 with_reducible rfl
                rotate_left
                ·simp only [Act.put, List.setIfInBounds_toArray, List.set_cons_zero, List.set_cons_succ, i64_w, i32_w]
                 rfl
                refine pure_ (i := 3) (N := some 93) (v := ?_) (a' := ?_) #[false, true, true, true, false, false, false, false, false, false, false, false] rfl rfl (any_of HT_.out (by kernel_rfl)) (fun _ _ _ h => h) (Or.inl ⟨by rfl, ?_⟩) ?_ ?_
                rotate_left
                ·intro w'
                 go_simp
                 with_reducible rfl
                rotate_left
                ·simp only [Act.put, List.setIfInBounds_toArray, List.set_cons_zero, List.set_cons_succ, i64_w, i32_w]
                 rfl
                refine take_ (i := 0) (N := some 90) (v := ?_) (a' := ?_) #[true, true, true, true, false, false, false, false, false, false, false, false] rfl rfl (take_ofW HT_.out HW_.out (by kernel_rfl)) (fun _ _ _ h => h) (Or.inl ⟨by rfl, ?_⟩) hHeld ?_ ?_
                rotate_left
                ·rintro w' ⟨s0, s1, s2⟩
                 go_simp
                 with_reducible rfl
                rotate_left
                ·simp only [Act.put, List.setIfInBounds_toArray, List.set_cons_zero, List.set_cons_succ, i64_w, i32_w]
                 rfl
                refine take_ (i := 4) (N := some 94) (v := ?_) (a' := ?_) #[true, true, true, true, true, false, false, false, false, false, false, false] rfl rfl (take_ofW HT_.out HW_.out (by kernel_rfl)) (fun _ _ _ h => h) (Or.inl ⟨by rfl, ?_⟩) hHeld ?_ ?_
                rotate_left
                ·rintro w' ⟨s0, s1, s2⟩
                 go_simp
                 with_reducible rfl
                rotate_left
                ·simp only [Act.put, List.setIfInBounds_toArray, List.set_cons_zero, List.set_cons_succ, i64_w, i32_w]
                 rfl
                refine join_ (σ := Value × Value × Nat) 2 #[true, true, true, true, true, true, true, true, true, true, false, false] (fun s_ => [(95, .tuple #[.agg #[s_.1, s_.2.1], .bool true]), (18, .pointer (some ⟨s_.2.2, 0, none⟩)), (89, .tuple #[.agg #[s_.1, s_.2.1], .bool true]), (96, .agg #[s_.1, s_.2.1]), (97, .bool true)]) (fun s_ w' => (w'.cell? ⟨gb868, 0, none⟩ = some (.slice Ao18 t861.length co18) ∧ w'.cell? ⟨gb868, 1, none⟩ = some (.slice Ao21 t864.length co21) ∧ w'.cell? (ad899.add ((ji58)).toNat) = some (.int .i64 (rd t857 (ji58)))) ∧ (Kd.R (Kd.int .i64) 3 w' w.heap.size (fun k_ => oN k_ Ao78 t883 co78 ∧ oN k_ Ao83 t886 co83 ∧ oN k_ Ao88 t891 co88 ∧ oN k_ Ao94 t894 co94 ∧ some k_ ≠ (s_.1 : Value).ownBlock ∧ some k_ ≠ (s_.2.1 : Value).ownBlock ∧ some k_ ≠ (.slice (some ad899) t857.length co15 : Value).ownBlock ∧ oN k_ Ao12 t851 co12 ∧ oN k_ Ao14 t854 co14 ∧ oN k_ Ao18 t861 co18 ∧ oN k_ Ao21 t864 co21 ∧ oN k_ Ao25 t869 co25 ∧ oN k_ Ao29 t872 co29) (.slice Ao75 t879.length co75) t879) ∧ (Kd.R (Kd.int .i64) 3 w' w.heap.size (fun k_ => oN k_ Ao75 t879 co75 ∧ oN k_ Ao83 t886 co83 ∧ oN k_ Ao88 t891 co88 ∧ oN k_ Ao94 t894 co94 ∧ some k_ ≠ (s_.1 : Value).ownBlock ∧ some k_ ≠ (s_.2.1 : Value).ownBlock ∧ some k_ ≠ (.slice (some ad899) t857.length co15 : Value).ownBlock ∧ oN k_ Ao12 t851 co12 ∧ oN k_ Ao14 t854 co14 ∧ oN k_ Ao18 t861 co18 ∧ oN k_ Ao21 t864 co21 ∧ oN k_ Ao25 t869 co25 ∧ oN k_ Ao29 t872 co29) (.slice Ao78 t883.length co78) t883) ∧ (Kd.R (Kd.int .i64) 3 w' w.heap.size (fun k_ => oN k_ Ao75 t879 co75 ∧ oN k_ Ao78 t883 co78 ∧ oN k_ Ao88 t891 co88 ∧ oN k_ Ao94 t894 co94 ∧ some k_ ≠ (s_.1 : Value).ownBlock ∧ some k_ ≠ (s_.2.1 : Value).ownBlock ∧ some k_ ≠ (.slice (some ad899) t857.length co15 : Value).ownBlock ∧ oN k_ Ao12 t851 co12 ∧ oN k_ Ao14 t854 co14 ∧ oN k_ Ao18 t861 co18 ∧ oN k_ Ao21 t864 co21 ∧ oN k_ Ao25 t869 co25 ∧ oN k_ Ao29 t872 co29) (.slice Ao83 t886.length co83) t886) ∧ (Kd.R (Kd.int .i64) 3 w' w.heap.size (fun k_ => oN k_ Ao75 t879 co75 ∧ oN k_ Ao78 t883 co78 ∧ oN k_ Ao83 t886 co83 ∧ oN k_ Ao94 t894 co94 ∧ some k_ ≠ (s_.1 : Value).ownBlock ∧ some k_ ≠ (s_.2.1 : Value).ownBlock ∧ some k_ ≠ (.slice (some ad899) t857.length co15 : Value).ownBlock ∧ oN k_ Ao12 t851 co12 ∧ oN k_ Ao14 t854 co14 ∧ oN k_ Ao18 t861 co18 ∧ oN k_ Ao21 t864 co21 ∧ oN k_ Ao25 t869 co25 ∧ oN k_ Ao29 t872 co29) (.slice Ao88 t891.length co88) t891) ∧ (Kd.R (Kd.int .i64) 3 w' w.heap.size (fun k_ => oN k_ Ao75 t879 co75 ∧ oN k_ Ao78 t883 co78 ∧ oN k_ Ao83 t886 co83 ∧ oN k_ Ao88 t891 co88 ∧ some k_ ≠ (s_.1 : Value).ownBlock ∧ some k_ ≠ (s_.2.1 : Value).ownBlock ∧ some k_ ≠ (.slice (some ad899) t857.length co15 : Value).ownBlock ∧ oN k_ Ao12 t851 co12 ∧ oN k_ Ao14 t854 co14 ∧ oN k_ Ao18 t861 co18 ∧ oN k_ Ao21 t864 co21 ∧ oN k_ Ao25 t869 co25 ∧ oN k_ Ao29 t872 co29) (.slice Ao94 t894.length co94) t894) ∧ (Kd.R (Kd.int .i64) 3 w' w.heap.size (fun k_ => oN k_ Ao75 t879 co75 ∧ oN k_ Ao78 t883 co78 ∧ oN k_ Ao83 t886 co83 ∧ oN k_ Ao88 t891 co88 ∧ oN k_ Ao94 t894 co94 ∧ some k_ ≠ (s_.2.1 : Value).ownBlock ∧ some k_ ≠ (.slice (some ad899) t857.length co15 : Value).ownBlock ∧ oN k_ Ao12 t851 co12 ∧ oN k_ Ao14 t854 co14 ∧ oN k_ Ao18 t861 co18 ∧ oN k_ Ao21 t864 co21 ∧ oN k_ Ao25 t869 co25 ∧ oN k_ Ao29 t872 co29) s_.1 t900) ∧ (Kd.R (Kd.int .i64) 3 w' w.heap.size (fun k_ => oN k_ Ao75 t879 co75 ∧ oN k_ Ao78 t883 co78 ∧ oN k_ Ao83 t886 co83 ∧ oN k_ Ao88 t891 co88 ∧ oN k_ Ao94 t894 co94 ∧ some k_ ≠ (s_.1 : Value).ownBlock ∧ some k_ ≠ (.slice (some ad899) t857.length co15 : Value).ownBlock ∧ oN k_ Ao12 t851 co12 ∧ oN k_ Ao14 t854 co14 ∧ oN k_ Ao18 t861 co18 ∧ oN k_ Ao21 t864 co21 ∧ oN k_ Ao25 t869 co25 ∧ oN k_ Ao29 t872 co29) s_.2.1 t903) ∧ (Kd.R (Kd.int .i64) 3 w' w.heap.size (fun k_ => oN k_ Ao75 t879 co75 ∧ oN k_ Ao78 t883 co78 ∧ oN k_ Ao83 t886 co83 ∧ oN k_ Ao88 t891 co88 ∧ oN k_ Ao94 t894 co94 ∧ some k_ ≠ (s_.1 : Value).ownBlock ∧ some k_ ≠ (s_.2.1 : Value).ownBlock ∧ oN k_ Ao12 t851 co12 ∧ oN k_ Ao14 t854 co14 ∧ oN k_ Ao18 t861 co18 ∧ oN k_ Ao21 t864 co21 ∧ oN k_ Ao25 t869 co25 ∧ oN k_ Ao29 t872 co29) (.slice (some ad899) t857.length co15) t857) ∧ (Kd.Q (Kd.int .i64) 3 w' w.heap.size (fun k_ => oN k_ Ao75 t879 co75 ∧ oN k_ Ao78 t883 co78 ∧ oN k_ Ao83 t886 co83 ∧ oN k_ Ao88 t891 co88 ∧ oN k_ Ao94 t894 co94 ∧ some k_ ≠ (s_.1 : Value).ownBlock ∧ some k_ ≠ (s_.2.1 : Value).ownBlock ∧ some k_ ≠ (.slice (some ad899) t857.length co15 : Value).ownBlock ∧ oN k_ Ao14 t854 co14 ∧ oN k_ Ao18 t861 co18 ∧ oN k_ Ao21 t864 co21 ∧ oN k_ Ao25 t869 co25 ∧ oN k_ Ao29 t872 co29) (.slice Ao12 t851.length co12) t851) ∧ (Kd.R (Kd.int .i64) 3 w' w.heap.size (fun k_ => oN k_ Ao75 t879 co75 ∧ oN k_ Ao78 t883 co78 ∧ oN k_ Ao83 t886 co83 ∧ oN k_ Ao88 t891 co88 ∧ oN k_ Ao94 t894 co94 ∧ some k_ ≠ (s_.1 : Value).ownBlock ∧ some k_ ≠ (s_.2.1 : Value).ownBlock ∧ some k_ ≠ (.slice (some ad899) t857.length co15 : Value).ownBlock ∧ oN k_ Ao12 t851 co12 ∧ oN k_ Ao18 t861 co18 ∧ oN k_ Ao21 t864 co21 ∧ oN k_ Ao25 t869 co25 ∧ oN k_ Ao29 t872 co29) (.slice Ao14 t854.length co14) t854) ∧ (Kd.Q (Kd.int .i64) 3 w' w.heap.size (fun k_ => oN k_ Ao75 t879 co75 ∧ oN k_ Ao78 t883 co78 ∧ oN k_ Ao83 t886 co83 ∧ oN k_ Ao88 t891 co88 ∧ oN k_ Ao94 t894 co94 ∧ some k_ ≠ (s_.1 : Value).ownBlock ∧ some k_ ≠ (s_.2.1 : Value).ownBlock ∧ some k_ ≠ (.slice (some ad899) t857.length co15 : Value).ownBlock ∧ oN k_ Ao12 t851 co12 ∧ oN k_ Ao14 t854 co14 ∧ oN k_ Ao21 t864 co21 ∧ oN k_ Ao25 t869 co25 ∧ oN k_ Ao29 t872 co29) (.slice Ao18 t861.length co18) t861) ∧ (Kd.R (Kd.int .i64) 3 w' w.heap.size (fun k_ => oN k_ Ao75 t879 co75 ∧ oN k_ Ao78 t883 co78 ∧ oN k_ Ao83 t886 co83 ∧ oN k_ Ao88 t891 co88 ∧ oN k_ Ao94 t894 co94 ∧ some k_ ≠ (s_.1 : Value).ownBlock ∧ some k_ ≠ (s_.2.1 : Value).ownBlock ∧ some k_ ≠ (.slice (some ad899) t857.length co15 : Value).ownBlock ∧ oN k_ Ao12 t851 co12 ∧ oN k_ Ao14 t854 co14 ∧ oN k_ Ao18 t861 co18 ∧ oN k_ Ao25 t869 co25 ∧ oN k_ Ao29 t872 co29) (.slice Ao21 t864.length co21) t864) ∧ (Kd.Q (Kd.int .i64) 3 w' w.heap.size (fun k_ => oN k_ Ao75 t879 co75 ∧ oN k_ Ao78 t883 co78 ∧ oN k_ Ao83 t886 co83 ∧ oN k_ Ao88 t891 co88 ∧ oN k_ Ao94 t894 co94 ∧ some k_ ≠ (s_.1 : Value).ownBlock ∧ some k_ ≠ (s_.2.1 : Value).ownBlock ∧ some k_ ≠ (.slice (some ad899) t857.length co15 : Value).ownBlock ∧ oN k_ Ao12 t851 co12 ∧ oN k_ Ao14 t854 co14 ∧ oN k_ Ao18 t861 co18 ∧ oN k_ Ao21 t864 co21 ∧ oN k_ Ao29 t872 co29) (.slice Ao25 t869.length co25) t869) ∧ (Kd.R (Kd.int .i64) 3 w' w.heap.size (fun k_ => oN k_ Ao75 t879 co75 ∧ oN k_ Ao78 t883 co78 ∧ oN k_ Ao83 t886 co83 ∧ oN k_ Ao88 t891 co88 ∧ oN k_ Ao94 t894 co94 ∧ some k_ ≠ (s_.1 : Value).ownBlock ∧ some k_ ≠ (s_.2.1 : Value).ownBlock ∧ some k_ ≠ (.slice (some ad899) t857.length co15 : Value).ownBlock ∧ oN k_ Ao12 t851 co12 ∧ oN k_ Ao14 t854 co14 ∧ oN k_ Ao18 t861 co18 ∧ oN k_ Ao21 t864 co21 ∧ oN k_ Ao25 t869 co25) (.slice Ao29 t872.length co29) t872) ∧ (w'.heap[gb860]? = some (.cells #[.slice Ao12 t851.length co12, .slice Ao14 t854.length co14] 25 (0, 0))) ∧ (w'.heap[gb868]? = some (.cells #[.slice Ao18 t861.length co18, .slice Ao21 t864.length co21] 25 (0, 0))) ∧ (w'.heap[gb876]? = some (.cells #[.slice Ao25 t869.length co25, .slice Ao29 t872.length co29] 25 (0, 0))) ∧ (w'.heap[gb890]? = some (.cells #[.slice Ao78 t883.length co78, .slice Ao83 t886.length co83] 25 (0, 0))) ∧ (w'.heap[gb898]? = some (.cells #[.slice Ao88 t891.length co88, .slice Ao94 t894.length co94] 25 (0, 0))) ∧ (w'.heap[s_.2.2]? = some (.cells #[.slice none 0 0, .slice none 0 0] 25 (0, 0))) ∧ (w.heap.size ≤ s_.2.2) ∧ (w.heap.size ≤ s_.2.2) ∧ (gb860 ≠ s_.2.2) ∧ (s_.2.2 ≠ gb860) ∧ (gb868 ≠ s_.2.2) ∧ (s_.2.2 ≠ gb868) ∧ (gb876 ≠ s_.2.2) ∧ (s_.2.2 ≠ gb876) ∧ (gb890 ≠ s_.2.2) ∧ (s_.2.2 ≠ gb890) ∧ (gb898 ≠ s_.2.2) ∧ (s_.2.2 ≠ gb898) ∧ (Below w.heap.size w w')) ?_ ?_
                rotate_left
                ·intro hCont
                 refine two_ (i := 5) (j := 9) (Ni := some 95) (Nj := some 18) #[true, true, true, true, true, true, false, false, false, false, false, false] #[true, true, true, true, true, false, false, false, false, true, false, false] rfl rfl rfl rfl (two_of HT_.out (by kernel_rfl)) (by decide) (by decide) (fun K hK => ?_) (fun K hK => ?_)
                 ·skip
                  refine goes_ Try.func29 (by kernel_rfl) rfl #[.agg #[.slice Ao18 t861.length co18, .slice Ao21 t864.length co21], .int .i64 (rd t857 (ji58))] (by rfl) rfl rfl (by (try simp only [List.map_toArray, List.map_cons, List.map_nil]); first | done | (simp only [hji58]; rfl) | rfl | (simp only [List.length_drop, List.length_take]; rfl)) ?_
                  with_reducible refine (impl_MapForm.calls kj8 _ _ t861 _ _ t864 (rd t857 (ji58)) t900 t903 true _ ?side1 ?side2 ?side3 ?side4 A61.out).mono ?_
                  (case side1 => exact cP (Kd.Q_reads' HO_869000.out).2.2)
                  (case side2 => exact (Kd.Q_reads' HO_869000.out).2.1)
                  (case side3 => exact cP (Kd.R_reads' HO_869001.out).2.2)
                  (case side4 => exact (Kd.R_reads' HO_869001.out).2.1)
                  rintro e w97 ⟨v901, v904, rfl, ho0, ho1, hb⟩
                  have HS2_ := (hb.cell (World.block_lt_of_cell? _ _ (hHeld.2.2))).trans (hHeld.2.2)
                  refine ⟨_, rfl, ?_⟩
                  have HO902 := Aside0.mk (Kd.R_lower (Kd.R_new' (Kd.R_new' (Kd.R_new' (Kd.R_new' (Kd.R_new' (Kd.R_new' (Kd.R_new' (Kd.R_new' (Kd.R_new' (Kd.R_new' (Kd.R_new' (Kd.R_new' ho0 (Kd.R_lt (rP HO_6))) (Kd.Q_lt (qP HO_861000))) (Kd.R_lt (rP HO_861001))) (Kd.Q_lt (qP HO_869000))) (Kd.R_lt (rP HO_869001))) (Kd.Q_lt (qP HO_877000))) (Kd.R_lt (rP HO_877001))) (Kd.R_lt (rP HO882))) (Kd.R_lt (rP HO885))) (Kd.R_lt (rP HO888))) (Kd.R_lt (rP HO893))) (Kd.R_lt (rP HO896))) (below_size (bP HB)))
                  have HO905 := Aside0.mk (Kd.R_lower (Kd.R_new' (Kd.R_new' (Kd.R_new' (Kd.R_new' (Kd.R_new' (Kd.R_new' (Kd.R_new' (Kd.R_new' (Kd.R_new' (Kd.R_new' (Kd.R_new' (Kd.R_new' ho1 (Kd.R_lt (rP HO_6))) (Kd.Q_lt (qP HO_861000))) (Kd.R_lt (rP HO_861001))) (Kd.Q_lt (qP HO_869000))) (Kd.R_lt (rP HO_869001))) (Kd.Q_lt (qP HO_877000))) (Kd.R_lt (rP HO_877001))) (Kd.R_lt (rP HO882))) (Kd.R_lt (rP HO885))) (Kd.R_lt (rP HO888))) (Kd.R_lt (rP HO893))) (Kd.R_lt (rP HO896))) (below_size (bP HB)))
                  replace HO_6 := Aside0.mk (Kd.R_mono (Kd.R_told (Kd.R_told (Kd.R_old (rP HO_6) hb) (Kd.R_base ho0)) (Kd.R_base ho1)) (fun _ h_ => h_.1))
                  replace HO_861000 := Aside0.mk (Kd.Q_mono (Kd.Q_told (Kd.Q_told (Kd.Q_old (qP HO_861000) hb) (Kd.R_base ho0)) (Kd.R_base ho1)) (fun _ h_ => h_.1))
                  replace HO_861001 := Aside0.mk (Kd.R_mono (Kd.R_told (Kd.R_told (Kd.R_old (rP HO_861001) hb) (Kd.R_base ho0)) (Kd.R_base ho1)) (fun _ h_ => h_.1))
                  replace HO_869000 := Aside0.mk (Kd.Q_mono (Kd.Q_told (Kd.Q_told (Kd.Q_old (qP HO_869000) hb) (Kd.R_base ho0)) (Kd.R_base ho1)) (fun _ h_ => h_.1))
                  replace HO_869001 := Aside0.mk (Kd.R_mono (Kd.R_told (Kd.R_told (Kd.R_old (rP HO_869001) hb) (Kd.R_base ho0)) (Kd.R_base ho1)) (fun _ h_ => h_.1))
                  replace HO_877000 := Aside0.mk (Kd.Q_mono (Kd.Q_told (Kd.Q_told (Kd.Q_old (qP HO_877000) hb) (Kd.R_base ho0)) (Kd.R_base ho1)) (fun _ h_ => h_.1))
                  replace HO_877001 := Aside0.mk (Kd.R_mono (Kd.R_told (Kd.R_told (Kd.R_old (rP HO_877001) hb) (Kd.R_base ho0)) (Kd.R_base ho1)) (fun _ h_ => h_.1))
                  replace HO882 := Aside0.mk (Kd.R_mono (Kd.R_told (Kd.R_told (Kd.R_old (rP HO882) hb) (Kd.R_base ho0)) (Kd.R_base ho1)) (fun _ h_ => h_.1))
                  replace HO885 := Aside0.mk (Kd.R_mono (Kd.R_told (Kd.R_told (Kd.R_old (rP HO885) hb) (Kd.R_base ho0)) (Kd.R_base ho1)) (fun _ h_ => h_.1))
                  replace HO888 := Aside0.mk (Kd.R_mono (Kd.R_told (Kd.R_told (Kd.R_old (rP HO888) hb) (Kd.R_base ho0)) (Kd.R_base ho1)) (fun _ h_ => h_.1))
                  replace HO893 := Aside0.mk (Kd.R_mono (Kd.R_told (Kd.R_told (Kd.R_old (rP HO893) hb) (Kd.R_base ho0)) (Kd.R_base ho1)) (fun _ h_ => h_.1))
                  replace HO896 := Aside0.mk (Kd.R_mono (Kd.R_told (Kd.R_told (Kd.R_old (rP HO896) hb) (Kd.R_base ho0)) (Kd.R_base ho1)) (fun _ h_ => h_.1))
                  replace BK860 := kB BK860 hb
                  replace BK868 := kB BK868 hb
                  replace BK876 := kB BK876 hb
                  replace BK890 := kB BK890 hb
                  replace BK898 := kB BK898 hb
                  replace HB := bS HB hb
                  (try clear hb)
                  (try clear hb2)
                  (try clear hk)
                  (try clear hi)
                  (try clear ho0)
                  (try clear ho1)
                  refine hK.out _ _ ⟨(blk_cell BK868.out 0).trans rfl, (blk_cell BK868.out 1).trans rfl, HS2_⟩ (fun hHeld => ?_)
                  clear hK K
                  refine norm_ (a' := ?_) ?_ ?_
                  rotate_left
                  ·show Act.put _ (some 95) _ = _
                   simp only [Act.put, List.setIfInBounds_toArray, List.set_cons_zero, List.set_cons_succ, i64_w, i32_w]
                   rfl
                  refine pure_ (i := 6) (N := some 89) (v := ?_) (a' := ?_) #[true, true, true, true, true, true, true, false, false, false, false, false] rfl rfl (any_of HT_.out (by kernel_rfl)) (fun _ _ _ h => h) (Or.inl ⟨by rfl, ?_⟩) ?_ ?_
                  rotate_left
                  ·intro w'
                   go_simp
                   with_reducible rfl
                  rotate_left
                  ·simp only [Act.put, List.setIfInBounds_toArray, List.set_cons_zero, List.set_cons_succ, i64_w, i32_w]
                   rfl
                  refine pure_ (i := 7) (N := some 96) (v := ?_) (a' := ?_) #[true, true, true, true, true, true, true, true, false, false, false, false] rfl rfl (any_of HT_.out (by kernel_rfl)) (fun _ _ _ h => h) (Or.inl ⟨by rfl, ?_⟩) ?_ ?_
                  rotate_left
                  ·intro w'
                   go_simp
                   with_reducible rfl
                  rotate_left
                  ·simp only [Act.put, List.setIfInBounds_toArray, List.set_cons_zero, List.set_cons_succ, i64_w, i32_w]
                   rfl
                  refine pure_ (i := 8) (N := some 97) (v := ?_) (a' := ?_) #[true, true, true, true, true, true, true, true, true, false, false, false] rfl rfl (any_of HT_.out (by kernel_rfl)) (fun _ _ _ h => h) (Or.inl ⟨by rfl, ?_⟩) ?_ ?_
                  rotate_left
                  ·intro w'
                   go_simp
                   with_reducible rfl
                  rotate_left
                  ·simp only [Act.put, List.setIfInBounds_toArray, List.set_cons_zero, List.set_cons_succ, i64_w, i32_w]
                   rfl
                  refine one_ (i := 9) (N := some 18) #[true, true, true, true, true, true, true, true, true, true, false, false] rfl rfl (one_of HT_.out (by kernel_rfl)) (by decide) (fun K hK => ?_)
                  refine box_step ?hg (N := 18) ?hd (cs := #[.slice none 0 0, .slice none 0 0]) (t := 25) ?hr ?_; (case hd => rfl); (case hg => rfl); (case hr => first | (go_simp; done) | (go_simp; rfl))
                  intro gb907 hg w98 hbox hb
                  have HS2_ := (hb.cell (World.block_lt_of_cell? _ _ (hHeld.2.2))).trans (hHeld.2.2)
                  replace HO_6 := rB HO_6 hb
                  replace HO_861000 := Aside0.mk (Kd.Q_below (qP HO_861000) hb)
                  replace HO_861001 := rB HO_861001 hb
                  replace HO_869000 := Aside0.mk (Kd.Q_below (qP HO_869000) hb)
                  replace HO_869001 := rB HO_869001 hb
                  replace HO_877000 := Aside0.mk (Kd.Q_below (qP HO_877000) hb)
                  replace HO_877001 := rB HO_877001 hb
                  replace HO882 := rB HO882 hb
                  replace HO885 := rB HO885 hb
                  replace HO888 := rB HO888 hb
                  replace HO893 := rB HO893 hb
                  replace HO896 := rB HO896 hb
                  replace HO902 := rB HO902 hb
                  replace HO905 := rB HO905 hb
                  have BK907 := Aside0.mk (hbox)
                  have GW907 := gS HB hg
                  have GE907 := gS HB hg
                  replace HB := bS HB hb
                  have NB860_907 := nL BK860 hg
                  have NB907_860 := nG BK860 hg
                  replace BK860 := kB BK860 hb
                  have NB868_907 := nL BK868 hg
                  have NB907_868 := nG BK868 hg
                  replace BK868 := kB BK868 hb
                  have NB876_907 := nL BK876 hg
                  have NB907_876 := nG BK876 hg
                  replace BK876 := kB BK876 hb
                  have NB890_907 := nL BK890 hg
                  have NB907_890 := nG BK890 hg
                  replace BK890 := kB BK890 hb
                  have NB898_907 := nL BK898 hg
                  have NB907_898 := nG BK898 hg
                  replace BK898 := kB BK898 hb
                  clear hb hbox hg
                  refine hK.out _ _ ⟨(blk_cell BK868.out 0).trans rfl, (blk_cell BK868.out 1).trans rfl, HS2_⟩ (fun hHeld => ?_)
                  clear hK K
                  refine norm_ (a' := ?_) ?_ ?_
                  rotate_left
                  ·show Act.put _ (some 18) _ = _
                   simp only [Act.put, List.setIfInBounds_toArray, List.set_cons_zero, List.set_cons_succ, i64_w, i32_w]
                   rfl
                  exact norm_ (by simp only [putAll, Act.put, List.setIfInBounds_toArray, List.set_cons_zero, List.set_cons_succ]) (hCont (v901, v904, gb907) _ ⟨hHeld, (rT (Kd.R_mono HO882.out (fun _ hk => ⟨hk.1.1.2.2.2.2.2.2.2.1, ⟨hk.1.1.2.2.2.2.2.2.2.2.1, ⟨hk.1.1.2.2.2.2.2.2.2.2.2.1, ⟨hk.1.1.2.2.2.2.2.2.2.2.2.2, ⟨hk.1.2, ⟨hk.2, ⟨hk.1.1.1, ⟨hk.1.1.2.1, ⟨hk.1.1.2.2.1, ⟨hk.1.1.2.2.2.1, ⟨hk.1.1.2.2.2.2.1, ⟨hk.1.1.2.2.2.2.2.1, hk.1.1.2.2.2.2.2.2.1⟩⟩⟩⟩⟩⟩⟩⟩⟩⟩⟩⟩))), (rT (Kd.R_mono HO885.out (fun _ hk => ⟨hk.1.1.2.2.2.2.2.2.2.1, ⟨hk.1.1.2.2.2.2.2.2.2.2.1, ⟨hk.1.1.2.2.2.2.2.2.2.2.2.1, ⟨hk.1.1.2.2.2.2.2.2.2.2.2.2, ⟨hk.1.2, ⟨hk.2, ⟨hk.1.1.1, ⟨hk.1.1.2.1, ⟨hk.1.1.2.2.1, ⟨hk.1.1.2.2.2.1, ⟨hk.1.1.2.2.2.2.1, ⟨hk.1.1.2.2.2.2.2.1, hk.1.1.2.2.2.2.2.2.1⟩⟩⟩⟩⟩⟩⟩⟩⟩⟩⟩⟩))), (rT (Kd.R_mono HO888.out (fun _ hk => ⟨hk.1.1.2.2.2.2.2.2.2.1, ⟨hk.1.1.2.2.2.2.2.2.2.2.1, ⟨hk.1.1.2.2.2.2.2.2.2.2.2.1, ⟨hk.1.1.2.2.2.2.2.2.2.2.2.2, ⟨hk.1.2, ⟨hk.2, ⟨hk.1.1.1, ⟨hk.1.1.2.1, ⟨hk.1.1.2.2.1, ⟨hk.1.1.2.2.2.1, ⟨hk.1.1.2.2.2.2.1, ⟨hk.1.1.2.2.2.2.2.1, hk.1.1.2.2.2.2.2.2.1⟩⟩⟩⟩⟩⟩⟩⟩⟩⟩⟩⟩))), (rT (Kd.R_mono HO893.out (fun _ hk => ⟨hk.1.1.2.2.2.2.2.2.2.1, ⟨hk.1.1.2.2.2.2.2.2.2.2.1, ⟨hk.1.1.2.2.2.2.2.2.2.2.2.1, ⟨hk.1.1.2.2.2.2.2.2.2.2.2.2, ⟨hk.1.2, ⟨hk.2, ⟨hk.1.1.1, ⟨hk.1.1.2.1, ⟨hk.1.1.2.2.1, ⟨hk.1.1.2.2.2.1, ⟨hk.1.1.2.2.2.2.1, ⟨hk.1.1.2.2.2.2.2.1, hk.1.1.2.2.2.2.2.2.1⟩⟩⟩⟩⟩⟩⟩⟩⟩⟩⟩⟩))), (rT (Kd.R_mono HO896.out (fun _ hk => ⟨hk.1.1.2.2.2.2.2.2.2.1, ⟨hk.1.1.2.2.2.2.2.2.2.2.1, ⟨hk.1.1.2.2.2.2.2.2.2.2.2.1, ⟨hk.1.1.2.2.2.2.2.2.2.2.2.2, ⟨hk.1.2, ⟨hk.2, ⟨hk.1.1.1, ⟨hk.1.1.2.1, ⟨hk.1.1.2.2.1, ⟨hk.1.1.2.2.2.1, ⟨hk.1.1.2.2.2.2.1, ⟨hk.1.1.2.2.2.2.2.1, hk.1.1.2.2.2.2.2.2.1⟩⟩⟩⟩⟩⟩⟩⟩⟩⟩⟩⟩))), (rT (Kd.R_mono HO902.out (fun _ hk => ⟨hk.1.1.1.1.2, ⟨hk.1.1.1.2, ⟨hk.1.1.2, ⟨hk.1.2, ⟨hk.2, ⟨hk.1.1.1.1.1.1.1.1.1.1.1.1, ⟨hk.1.1.1.1.1.1.1.1.1.1.1.2, ⟨hk.1.1.1.1.1.1.1.1.1.1.2, ⟨hk.1.1.1.1.1.1.1.1.1.2, ⟨hk.1.1.1.1.1.1.1.1.2, ⟨hk.1.1.1.1.1.1.1.2, ⟨hk.1.1.1.1.1.1.2, hk.1.1.1.1.1.2⟩⟩⟩⟩⟩⟩⟩⟩⟩⟩⟩⟩))), (rT (Kd.R_mono HO905.out (fun _ hk => ⟨hk.1.1.1.1.2, ⟨hk.1.1.1.2, ⟨hk.1.1.2, ⟨hk.1.2, ⟨hk.2, ⟨hk.1.1.1.1.1.1.1.1.1.1.1.1, ⟨hk.1.1.1.1.1.1.1.1.1.1.1.2, ⟨hk.1.1.1.1.1.1.1.1.1.1.2, ⟨hk.1.1.1.1.1.1.1.1.1.2, ⟨hk.1.1.1.1.1.1.1.1.2, ⟨hk.1.1.1.1.1.1.1.2, ⟨hk.1.1.1.1.1.1.2, hk.1.1.1.1.1.2⟩⟩⟩⟩⟩⟩⟩⟩⟩⟩⟩⟩))), (rT (Kd.R_mono HO_6.out (fun _ hk => ⟨hk.1.1.2.2.2.2.2.2.1, ⟨hk.1.1.2.2.2.2.2.2.2.1, ⟨hk.1.1.2.2.2.2.2.2.2.2.1, ⟨hk.1.1.2.2.2.2.2.2.2.2.2.1, ⟨hk.1.1.2.2.2.2.2.2.2.2.2.2, ⟨hk.1.2, ⟨hk.2, ⟨hk.1.1.1, ⟨hk.1.1.2.1, ⟨hk.1.1.2.2.1, ⟨hk.1.1.2.2.2.1, ⟨hk.1.1.2.2.2.2.1, hk.1.1.2.2.2.2.2.1⟩⟩⟩⟩⟩⟩⟩⟩⟩⟩⟩⟩))), (qT (Kd.Q_mono HO_861000.out (fun _ hk => ⟨hk.1.1.2.2.2.2.2.2.1, ⟨hk.1.1.2.2.2.2.2.2.2.1, ⟨hk.1.1.2.2.2.2.2.2.2.2.1, ⟨hk.1.1.2.2.2.2.2.2.2.2.2.1, ⟨hk.1.1.2.2.2.2.2.2.2.2.2.2, ⟨hk.1.2, ⟨hk.2, ⟨hk.1.1.1, ⟨hk.1.1.2.1, ⟨hk.1.1.2.2.1, ⟨hk.1.1.2.2.2.1, ⟨hk.1.1.2.2.2.2.1, hk.1.1.2.2.2.2.2.1⟩⟩⟩⟩⟩⟩⟩⟩⟩⟩⟩⟩))), (rT (Kd.R_mono HO_861001.out (fun _ hk => ⟨hk.1.1.2.2.2.2.2.2.1, ⟨hk.1.1.2.2.2.2.2.2.2.1, ⟨hk.1.1.2.2.2.2.2.2.2.2.1, ⟨hk.1.1.2.2.2.2.2.2.2.2.2.1, ⟨hk.1.1.2.2.2.2.2.2.2.2.2.2, ⟨hk.1.2, ⟨hk.2, ⟨hk.1.1.1, ⟨hk.1.1.2.1, ⟨hk.1.1.2.2.1, ⟨hk.1.1.2.2.2.1, ⟨hk.1.1.2.2.2.2.1, hk.1.1.2.2.2.2.2.1⟩⟩⟩⟩⟩⟩⟩⟩⟩⟩⟩⟩))), (qT (Kd.Q_mono HO_869000.out (fun _ hk => ⟨hk.1.1.2.2.2.2.2.2.1, ⟨hk.1.1.2.2.2.2.2.2.2.1, ⟨hk.1.1.2.2.2.2.2.2.2.2.1, ⟨hk.1.1.2.2.2.2.2.2.2.2.2.1, ⟨hk.1.1.2.2.2.2.2.2.2.2.2.2, ⟨hk.1.2, ⟨hk.2, ⟨hk.1.1.1, ⟨hk.1.1.2.1, ⟨hk.1.1.2.2.1, ⟨hk.1.1.2.2.2.1, ⟨hk.1.1.2.2.2.2.1, hk.1.1.2.2.2.2.2.1⟩⟩⟩⟩⟩⟩⟩⟩⟩⟩⟩⟩))), (rT (Kd.R_mono HO_869001.out (fun _ hk => ⟨hk.1.1.2.2.2.2.2.2.1, ⟨hk.1.1.2.2.2.2.2.2.2.1, ⟨hk.1.1.2.2.2.2.2.2.2.2.1, ⟨hk.1.1.2.2.2.2.2.2.2.2.2.1, ⟨hk.1.1.2.2.2.2.2.2.2.2.2.2, ⟨hk.1.2, ⟨hk.2, ⟨hk.1.1.1, ⟨hk.1.1.2.1, ⟨hk.1.1.2.2.1, ⟨hk.1.1.2.2.2.1, ⟨hk.1.1.2.2.2.2.1, hk.1.1.2.2.2.2.2.1⟩⟩⟩⟩⟩⟩⟩⟩⟩⟩⟩⟩))), (qT (Kd.Q_mono HO_877000.out (fun _ hk => ⟨hk.1.1.2.2.2.2.2.2.1, ⟨hk.1.1.2.2.2.2.2.2.2.1, ⟨hk.1.1.2.2.2.2.2.2.2.2.1, ⟨hk.1.1.2.2.2.2.2.2.2.2.2.1, ⟨hk.1.1.2.2.2.2.2.2.2.2.2.2, ⟨hk.1.2, ⟨hk.2, ⟨hk.1.1.1, ⟨hk.1.1.2.1, ⟨hk.1.1.2.2.1, ⟨hk.1.1.2.2.2.1, ⟨hk.1.1.2.2.2.2.1, hk.1.1.2.2.2.2.2.1⟩⟩⟩⟩⟩⟩⟩⟩⟩⟩⟩⟩))), (rT (Kd.R_mono HO_877001.out (fun _ hk => ⟨hk.1.1.2.2.2.2.2.2.1, ⟨hk.1.1.2.2.2.2.2.2.2.1, ⟨hk.1.1.2.2.2.2.2.2.2.2.1, ⟨hk.1.1.2.2.2.2.2.2.2.2.2.1, ⟨hk.1.1.2.2.2.2.2.2.2.2.2.2, ⟨hk.1.2, ⟨hk.2, ⟨hk.1.1.1, ⟨hk.1.1.2.1, ⟨hk.1.1.2.2.1, ⟨hk.1.1.2.2.2.1, ⟨hk.1.1.2.2.2.2.1, hk.1.1.2.2.2.2.2.1⟩⟩⟩⟩⟩⟩⟩⟩⟩⟩⟩⟩))), (kP BK860), (kP BK868), (kP BK876), (kP BK890), (kP BK898), (kP BK907), GW907.out, GE907.out, NB860_907.out, NB907_860.out, NB868_907.out, NB907_868.out, NB876_907.out, NB907_876.out, NB890_907.out, NB907_890.out, NB898_907.out, NB907_898.out, (bP HB)⟩)
                 skip
                 refine box_step ?hg (N := 18) ?hd (cs := #[.slice none 0 0, .slice none 0 0]) (t := 25) ?hr ?_; (case hd => rfl); (case hg => rfl); (case hr => first | (go_simp; done) | (go_simp; rfl))
                 intro gb907 hg w97 hbox hb
                 have HS2_ := (hb.cell (World.block_lt_of_cell? _ _ (hHeld.2.2))).trans (hHeld.2.2)
                 replace HO_6 := rB HO_6 hb
                 replace HO_861000 := Aside0.mk (Kd.Q_below (qP HO_861000) hb)
                 replace HO_861001 := rB HO_861001 hb
                 replace HO_869000 := Aside0.mk (Kd.Q_below (qP HO_869000) hb)
                 replace HO_869001 := rB HO_869001 hb
                 replace HO_877000 := Aside0.mk (Kd.Q_below (qP HO_877000) hb)
                 replace HO_877001 := rB HO_877001 hb
                 replace HO882 := rB HO882 hb
                 replace HO885 := rB HO885 hb
                 replace HO888 := rB HO888 hb
                 replace HO893 := rB HO893 hb
                 replace HO896 := rB HO896 hb
                 have BK907 := Aside0.mk (hbox)
                 have GW907 := gS HB hg
                 have GE907 := gS HB hg
                 replace HB := bS HB hb
                 have NB860_907 := nL BK860 hg
                 have NB907_860 := nG BK860 hg
                 replace BK860 := kB BK860 hb
                 have NB868_907 := nL BK868 hg
                 have NB907_868 := nG BK868 hg
                 replace BK868 := kB BK868 hb
                 have NB876_907 := nL BK876 hg
                 have NB907_876 := nG BK876 hg
                 replace BK876 := kB BK876 hb
                 have NB890_907 := nL BK890 hg
                 have NB907_890 := nG BK890 hg
                 replace BK890 := kB BK890 hb
                 have NB898_907 := nL BK898 hg
                 have NB907_898 := nG BK898 hg
                 replace BK898 := kB BK898 hb
                 clear hb hbox hg
                 refine hK.out _ _ ⟨(blk_cell BK868.out 0).trans rfl, (blk_cell BK868.out 1).trans rfl, HS2_⟩ (fun hHeld => ?_)
                 clear hK K
                 refine norm_ (a' := ?_) ?_ ?_
                 rotate_left
                 ·show Act.put _ (some 18) _ = _
                  simp only [Act.put, List.setIfInBounds_toArray, List.set_cons_zero, List.set_cons_succ, i64_w, i32_w]
                  rfl
                 refine one_ (i := 5) (N := some 95) #[true, true, true, true, true, true, false, false, false, true, false, false] rfl rfl (one_of HT_.out (by kernel_rfl)) (by decide) (fun K hK => ?_)
                 refine goes_ Try.func29 (by kernel_rfl) rfl #[.agg #[.slice Ao18 t861.length co18, .slice Ao21 t864.length co21], .int .i64 (rd t857 (ji58))] (by rfl) rfl rfl (by (try simp only [List.map_toArray, List.map_cons, List.map_nil]); first | done | (simp only [hji58]; rfl) | rfl | (simp only [List.length_drop, List.length_take]; rfl)) ?_
                 with_reducible refine (impl_MapForm.calls kj8 _ _ t861 _ _ t864 (rd t857 (ji58)) t900 t903 true _ ?side1 ?side2 ?side3 ?side4 A61.out).mono ?_
                 (case side1 => exact cP (Kd.Q_reads' HO_869000.out).2.2)
                 (case side2 => exact (Kd.Q_reads' HO_869000.out).2.1)
                 (case side3 => exact cP (Kd.R_reads' HO_869001.out).2.2)
                 (case side4 => exact (Kd.R_reads' HO_869001.out).2.1)
                 rintro e w98 ⟨v901, v904, rfl, ho0, ho1, hb⟩
                 have HS2_ := (hb.cell (World.block_lt_of_cell? _ _ (hHeld.2.2))).trans (hHeld.2.2)
                 refine ⟨_, rfl, ?_⟩
                 have HO902 := Aside0.mk (Kd.R_lower (Kd.R_new' (Kd.R_new' (Kd.R_new' (Kd.R_new' (Kd.R_new' (Kd.R_new' (Kd.R_new' (Kd.R_new' (Kd.R_new' (Kd.R_new' (Kd.R_new' (Kd.R_new' ho0 (Kd.R_lt (rP HO_6))) (Kd.Q_lt (qP HO_861000))) (Kd.R_lt (rP HO_861001))) (Kd.Q_lt (qP HO_869000))) (Kd.R_lt (rP HO_869001))) (Kd.Q_lt (qP HO_877000))) (Kd.R_lt (rP HO_877001))) (Kd.R_lt (rP HO882))) (Kd.R_lt (rP HO885))) (Kd.R_lt (rP HO888))) (Kd.R_lt (rP HO893))) (Kd.R_lt (rP HO896))) (below_size (bP HB)))
                 have HO905 := Aside0.mk (Kd.R_lower (Kd.R_new' (Kd.R_new' (Kd.R_new' (Kd.R_new' (Kd.R_new' (Kd.R_new' (Kd.R_new' (Kd.R_new' (Kd.R_new' (Kd.R_new' (Kd.R_new' (Kd.R_new' ho1 (Kd.R_lt (rP HO_6))) (Kd.Q_lt (qP HO_861000))) (Kd.R_lt (rP HO_861001))) (Kd.Q_lt (qP HO_869000))) (Kd.R_lt (rP HO_869001))) (Kd.Q_lt (qP HO_877000))) (Kd.R_lt (rP HO_877001))) (Kd.R_lt (rP HO882))) (Kd.R_lt (rP HO885))) (Kd.R_lt (rP HO888))) (Kd.R_lt (rP HO893))) (Kd.R_lt (rP HO896))) (below_size (bP HB)))
                 replace HO_6 := Aside0.mk (Kd.R_mono (Kd.R_told (Kd.R_told (Kd.R_old (rP HO_6) hb) (Kd.R_base ho0)) (Kd.R_base ho1)) (fun _ h_ => h_.1))
                 replace HO_861000 := Aside0.mk (Kd.Q_mono (Kd.Q_told (Kd.Q_told (Kd.Q_old (qP HO_861000) hb) (Kd.R_base ho0)) (Kd.R_base ho1)) (fun _ h_ => h_.1))
                 replace HO_861001 := Aside0.mk (Kd.R_mono (Kd.R_told (Kd.R_told (Kd.R_old (rP HO_861001) hb) (Kd.R_base ho0)) (Kd.R_base ho1)) (fun _ h_ => h_.1))
                 replace HO_869000 := Aside0.mk (Kd.Q_mono (Kd.Q_told (Kd.Q_told (Kd.Q_old (qP HO_869000) hb) (Kd.R_base ho0)) (Kd.R_base ho1)) (fun _ h_ => h_.1))
                 replace HO_869001 := Aside0.mk (Kd.R_mono (Kd.R_told (Kd.R_told (Kd.R_old (rP HO_869001) hb) (Kd.R_base ho0)) (Kd.R_base ho1)) (fun _ h_ => h_.1))
                 replace HO_877000 := Aside0.mk (Kd.Q_mono (Kd.Q_told (Kd.Q_told (Kd.Q_old (qP HO_877000) hb) (Kd.R_base ho0)) (Kd.R_base ho1)) (fun _ h_ => h_.1))
                 replace HO_877001 := Aside0.mk (Kd.R_mono (Kd.R_told (Kd.R_told (Kd.R_old (rP HO_877001) hb) (Kd.R_base ho0)) (Kd.R_base ho1)) (fun _ h_ => h_.1))
                 replace HO882 := Aside0.mk (Kd.R_mono (Kd.R_told (Kd.R_told (Kd.R_old (rP HO882) hb) (Kd.R_base ho0)) (Kd.R_base ho1)) (fun _ h_ => h_.1))
                 replace HO885 := Aside0.mk (Kd.R_mono (Kd.R_told (Kd.R_told (Kd.R_old (rP HO885) hb) (Kd.R_base ho0)) (Kd.R_base ho1)) (fun _ h_ => h_.1))
                 replace HO888 := Aside0.mk (Kd.R_mono (Kd.R_told (Kd.R_told (Kd.R_old (rP HO888) hb) (Kd.R_base ho0)) (Kd.R_base ho1)) (fun _ h_ => h_.1))
                 replace HO893 := Aside0.mk (Kd.R_mono (Kd.R_told (Kd.R_told (Kd.R_old (rP HO893) hb) (Kd.R_base ho0)) (Kd.R_base ho1)) (fun _ h_ => h_.1))
                 replace HO896 := Aside0.mk (Kd.R_mono (Kd.R_told (Kd.R_told (Kd.R_old (rP HO896) hb) (Kd.R_base ho0)) (Kd.R_base ho1)) (fun _ h_ => h_.1))
                 replace BK860 := kB BK860 hb
                 replace BK868 := kB BK868 hb
                 replace BK876 := kB BK876 hb
                 replace BK890 := kB BK890 hb
                 replace BK898 := kB BK898 hb
                 replace BK907 := kB BK907 hb
                 replace HB := bS HB hb
                 (try clear hb)
                 (try clear hb2)
                 (try clear hk)
                 (try clear hi)
                 (try clear ho0)
                 (try clear ho1)
                 refine hK.out _ _ ⟨(blk_cell BK868.out 0).trans rfl, (blk_cell BK868.out 1).trans rfl, HS2_⟩ (fun hHeld => ?_)
                 clear hK K
                 refine norm_ (a' := ?_) ?_ ?_
                 rotate_left
                 ·show Act.put _ (some 95) _ = _
                  simp only [Act.put, List.setIfInBounds_toArray, List.set_cons_zero, List.set_cons_succ, i64_w, i32_w]
                  rfl
                 refine pure_ (i := 6) (N := some 89) (v := ?_) (a' := ?_) #[true, true, true, true, true, true, true, false, false, true, false, false] rfl rfl (any_of HT_.out (by kernel_rfl)) (fun _ _ _ h => h) (Or.inl ⟨by rfl, ?_⟩) ?_ ?_
                 rotate_left
                 ·intro w'
                  go_simp
                  with_reducible rfl
                 rotate_left
                 ·simp only [Act.put, List.setIfInBounds_toArray, List.set_cons_zero, List.set_cons_succ, i64_w, i32_w]
                  rfl
                 refine pure_ (i := 7) (N := some 96) (v := ?_) (a' := ?_) #[true, true, true, true, true, true, true, true, false, true, false, false] rfl rfl (any_of HT_.out (by kernel_rfl)) (fun _ _ _ h => h) (Or.inl ⟨by rfl, ?_⟩) ?_ ?_
                 rotate_left
                 ·intro w'
                  go_simp
                  with_reducible rfl
                 rotate_left
                 ·simp only [Act.put, List.setIfInBounds_toArray, List.set_cons_zero, List.set_cons_succ, i64_w, i32_w]
                  rfl
                 refine pure_ (i := 8) (N := some 97) (v := ?_) (a' := ?_) #[true, true, true, true, true, true, true, true, true, true, false, false] rfl rfl (any_of HT_.out (by kernel_rfl)) (fun _ _ _ h => h) (Or.inl ⟨by rfl, ?_⟩) ?_ ?_
                 rotate_left
                 ·intro w'
                  go_simp
                  with_reducible rfl
                 rotate_left
                 ·simp only [Act.put, List.setIfInBounds_toArray, List.set_cons_zero, List.set_cons_succ, i64_w, i32_w]
                  rfl
                 exact norm_ (by simp only [putAll, Act.put, List.setIfInBounds_toArray, List.set_cons_zero, List.set_cons_succ]) (hCont (v901, v904, gb907) _ ⟨hHeld, (rT (Kd.R_mono HO882.out (fun _ hk => ⟨hk.1.1.2.2.2.2.2.2.2.1, ⟨hk.1.1.2.2.2.2.2.2.2.2.1, ⟨hk.1.1.2.2.2.2.2.2.2.2.2.1, ⟨hk.1.1.2.2.2.2.2.2.2.2.2.2, ⟨hk.1.2, ⟨hk.2, ⟨hk.1.1.1, ⟨hk.1.1.2.1, ⟨hk.1.1.2.2.1, ⟨hk.1.1.2.2.2.1, ⟨hk.1.1.2.2.2.2.1, ⟨hk.1.1.2.2.2.2.2.1, hk.1.1.2.2.2.2.2.2.1⟩⟩⟩⟩⟩⟩⟩⟩⟩⟩⟩⟩))), (rT (Kd.R_mono HO885.out (fun _ hk => ⟨hk.1.1.2.2.2.2.2.2.2.1, ⟨hk.1.1.2.2.2.2.2.2.2.2.1, ⟨hk.1.1.2.2.2.2.2.2.2.2.2.1, ⟨hk.1.1.2.2.2.2.2.2.2.2.2.2, ⟨hk.1.2, ⟨hk.2, ⟨hk.1.1.1, ⟨hk.1.1.2.1, ⟨hk.1.1.2.2.1, ⟨hk.1.1.2.2.2.1, ⟨hk.1.1.2.2.2.2.1, ⟨hk.1.1.2.2.2.2.2.1, hk.1.1.2.2.2.2.2.2.1⟩⟩⟩⟩⟩⟩⟩⟩⟩⟩⟩⟩))), (rT (Kd.R_mono HO888.out (fun _ hk => ⟨hk.1.1.2.2.2.2.2.2.2.1, ⟨hk.1.1.2.2.2.2.2.2.2.2.1, ⟨hk.1.1.2.2.2.2.2.2.2.2.2.1, ⟨hk.1.1.2.2.2.2.2.2.2.2.2.2, ⟨hk.1.2, ⟨hk.2, ⟨hk.1.1.1, ⟨hk.1.1.2.1, ⟨hk.1.1.2.2.1, ⟨hk.1.1.2.2.2.1, ⟨hk.1.1.2.2.2.2.1, ⟨hk.1.1.2.2.2.2.2.1, hk.1.1.2.2.2.2.2.2.1⟩⟩⟩⟩⟩⟩⟩⟩⟩⟩⟩⟩))), (rT (Kd.R_mono HO893.out (fun _ hk => ⟨hk.1.1.2.2.2.2.2.2.2.1, ⟨hk.1.1.2.2.2.2.2.2.2.2.1, ⟨hk.1.1.2.2.2.2.2.2.2.2.2.1, ⟨hk.1.1.2.2.2.2.2.2.2.2.2.2, ⟨hk.1.2, ⟨hk.2, ⟨hk.1.1.1, ⟨hk.1.1.2.1, ⟨hk.1.1.2.2.1, ⟨hk.1.1.2.2.2.1, ⟨hk.1.1.2.2.2.2.1, ⟨hk.1.1.2.2.2.2.2.1, hk.1.1.2.2.2.2.2.2.1⟩⟩⟩⟩⟩⟩⟩⟩⟩⟩⟩⟩))), (rT (Kd.R_mono HO896.out (fun _ hk => ⟨hk.1.1.2.2.2.2.2.2.2.1, ⟨hk.1.1.2.2.2.2.2.2.2.2.1, ⟨hk.1.1.2.2.2.2.2.2.2.2.2.1, ⟨hk.1.1.2.2.2.2.2.2.2.2.2.2, ⟨hk.1.2, ⟨hk.2, ⟨hk.1.1.1, ⟨hk.1.1.2.1, ⟨hk.1.1.2.2.1, ⟨hk.1.1.2.2.2.1, ⟨hk.1.1.2.2.2.2.1, ⟨hk.1.1.2.2.2.2.2.1, hk.1.1.2.2.2.2.2.2.1⟩⟩⟩⟩⟩⟩⟩⟩⟩⟩⟩⟩))), (rT (Kd.R_mono HO902.out (fun _ hk => ⟨hk.1.1.1.1.2, ⟨hk.1.1.1.2, ⟨hk.1.1.2, ⟨hk.1.2, ⟨hk.2, ⟨hk.1.1.1.1.1.1.1.1.1.1.1.1, ⟨hk.1.1.1.1.1.1.1.1.1.1.1.2, ⟨hk.1.1.1.1.1.1.1.1.1.1.2, ⟨hk.1.1.1.1.1.1.1.1.1.2, ⟨hk.1.1.1.1.1.1.1.1.2, ⟨hk.1.1.1.1.1.1.1.2, ⟨hk.1.1.1.1.1.1.2, hk.1.1.1.1.1.2⟩⟩⟩⟩⟩⟩⟩⟩⟩⟩⟩⟩))), (rT (Kd.R_mono HO905.out (fun _ hk => ⟨hk.1.1.1.1.2, ⟨hk.1.1.1.2, ⟨hk.1.1.2, ⟨hk.1.2, ⟨hk.2, ⟨hk.1.1.1.1.1.1.1.1.1.1.1.1, ⟨hk.1.1.1.1.1.1.1.1.1.1.1.2, ⟨hk.1.1.1.1.1.1.1.1.1.1.2, ⟨hk.1.1.1.1.1.1.1.1.1.2, ⟨hk.1.1.1.1.1.1.1.1.2, ⟨hk.1.1.1.1.1.1.1.2, ⟨hk.1.1.1.1.1.1.2, hk.1.1.1.1.1.2⟩⟩⟩⟩⟩⟩⟩⟩⟩⟩⟩⟩))), (rT (Kd.R_mono HO_6.out (fun _ hk => ⟨hk.1.1.2.2.2.2.2.2.1, ⟨hk.1.1.2.2.2.2.2.2.2.1, ⟨hk.1.1.2.2.2.2.2.2.2.2.1, ⟨hk.1.1.2.2.2.2.2.2.2.2.2.1, ⟨hk.1.1.2.2.2.2.2.2.2.2.2.2, ⟨hk.1.2, ⟨hk.2, ⟨hk.1.1.1, ⟨hk.1.1.2.1, ⟨hk.1.1.2.2.1, ⟨hk.1.1.2.2.2.1, ⟨hk.1.1.2.2.2.2.1, hk.1.1.2.2.2.2.2.1⟩⟩⟩⟩⟩⟩⟩⟩⟩⟩⟩⟩))), (qT (Kd.Q_mono HO_861000.out (fun _ hk => ⟨hk.1.1.2.2.2.2.2.2.1, ⟨hk.1.1.2.2.2.2.2.2.2.1, ⟨hk.1.1.2.2.2.2.2.2.2.2.1, ⟨hk.1.1.2.2.2.2.2.2.2.2.2.1, ⟨hk.1.1.2.2.2.2.2.2.2.2.2.2, ⟨hk.1.2, ⟨hk.2, ⟨hk.1.1.1, ⟨hk.1.1.2.1, ⟨hk.1.1.2.2.1, ⟨hk.1.1.2.2.2.1, ⟨hk.1.1.2.2.2.2.1, hk.1.1.2.2.2.2.2.1⟩⟩⟩⟩⟩⟩⟩⟩⟩⟩⟩⟩))), (rT (Kd.R_mono HO_861001.out (fun _ hk => ⟨hk.1.1.2.2.2.2.2.2.1, ⟨hk.1.1.2.2.2.2.2.2.2.1, ⟨hk.1.1.2.2.2.2.2.2.2.2.1, ⟨hk.1.1.2.2.2.2.2.2.2.2.2.1, ⟨hk.1.1.2.2.2.2.2.2.2.2.2.2, ⟨hk.1.2, ⟨hk.2, ⟨hk.1.1.1, ⟨hk.1.1.2.1, ⟨hk.1.1.2.2.1, ⟨hk.1.1.2.2.2.1, ⟨hk.1.1.2.2.2.2.1, hk.1.1.2.2.2.2.2.1⟩⟩⟩⟩⟩⟩⟩⟩⟩⟩⟩⟩))), (qT (Kd.Q_mono HO_869000.out (fun _ hk => ⟨hk.1.1.2.2.2.2.2.2.1, ⟨hk.1.1.2.2.2.2.2.2.2.1, ⟨hk.1.1.2.2.2.2.2.2.2.2.1, ⟨hk.1.1.2.2.2.2.2.2.2.2.2.1, ⟨hk.1.1.2.2.2.2.2.2.2.2.2.2, ⟨hk.1.2, ⟨hk.2, ⟨hk.1.1.1, ⟨hk.1.1.2.1, ⟨hk.1.1.2.2.1, ⟨hk.1.1.2.2.2.1, ⟨hk.1.1.2.2.2.2.1, hk.1.1.2.2.2.2.2.1⟩⟩⟩⟩⟩⟩⟩⟩⟩⟩⟩⟩))), (rT (Kd.R_mono HO_869001.out (fun _ hk => ⟨hk.1.1.2.2.2.2.2.2.1, ⟨hk.1.1.2.2.2.2.2.2.2.1, ⟨hk.1.1.2.2.2.2.2.2.2.2.1, ⟨hk.1.1.2.2.2.2.2.2.2.2.2.1, ⟨hk.1.1.2.2.2.2.2.2.2.2.2.2, ⟨hk.1.2, ⟨hk.2, ⟨hk.1.1.1, ⟨hk.1.1.2.1, ⟨hk.1.1.2.2.1, ⟨hk.1.1.2.2.2.1, ⟨hk.1.1.2.2.2.2.1, hk.1.1.2.2.2.2.2.1⟩⟩⟩⟩⟩⟩⟩⟩⟩⟩⟩⟩))), (qT (Kd.Q_mono HO_877000.out (fun _ hk => ⟨hk.1.1.2.2.2.2.2.2.1, ⟨hk.1.1.2.2.2.2.2.2.2.1, ⟨hk.1.1.2.2.2.2.2.2.2.2.1, ⟨hk.1.1.2.2.2.2.2.2.2.2.2.1, ⟨hk.1.1.2.2.2.2.2.2.2.2.2.2, ⟨hk.1.2, ⟨hk.2, ⟨hk.1.1.1, ⟨hk.1.1.2.1, ⟨hk.1.1.2.2.1, ⟨hk.1.1.2.2.2.1, ⟨hk.1.1.2.2.2.2.1, hk.1.1.2.2.2.2.2.1⟩⟩⟩⟩⟩⟩⟩⟩⟩⟩⟩⟩))), (rT (Kd.R_mono HO_877001.out (fun _ hk => ⟨hk.1.1.2.2.2.2.2.2.1, ⟨hk.1.1.2.2.2.2.2.2.2.1, ⟨hk.1.1.2.2.2.2.2.2.2.2.1, ⟨hk.1.1.2.2.2.2.2.2.2.2.2.1, ⟨hk.1.1.2.2.2.2.2.2.2.2.2.2, ⟨hk.1.2, ⟨hk.2, ⟨hk.1.1.1, ⟨hk.1.1.2.1, ⟨hk.1.1.2.2.1, ⟨hk.1.1.2.2.2.1, ⟨hk.1.1.2.2.2.2.1, hk.1.1.2.2.2.2.2.1⟩⟩⟩⟩⟩⟩⟩⟩⟩⟩⟩⟩))), (kP BK860), (kP BK868), (kP BK876), (kP BK890), (kP BK898), (kP BK907), GW907.out, GE907.out, NB860_907.out, NB907_860.out, NB868_907.out, NB907_868.out, NB876_907.out, NB907_876.out, NB890_907.out, NB907_890.out, NB898_907.out, NB907_898.out, (bP HB)⟩)
                rintro ⟨v901, v904, gb907⟩ w99 ⟨hS_, h0_, h1_, h2_, h3_, h4_, h5_, h6_, h7_, h8_, h9_, h10_, h11_, h12_, h13_, h14_, h15_, h16_, h17_, h18_, h19_, h20_, h21_, h22_, h23_, h24_, h25_, h26_, h27_, h28_, h29_, h30_, h31_, h32_⟩
                have n0_ : Aside0 (Kd.R (Kd.int .i64) 3 w99 w.heap.size (fun k_ => oN k_ Ao78 t883 co78 ∧ oN k_ Ao83 t886 co83 ∧ oN k_ Ao88 t891 co88 ∧ oN k_ Ao94 t894 co94 ∧ some k_ ≠ (v901 : Value).ownBlock ∧ some k_ ≠ (v904 : Value).ownBlock ∧ some k_ ≠ (.slice (some ad899) t857.length co15 : Value).ownBlock ∧ oN k_ Ao12 t851 co12 ∧ oN k_ Ao14 t854 co14 ∧ oN k_ Ao18 t861 co18 ∧ oN k_ Ao21 t864 co21 ∧ oN k_ Ao25 t869 co25 ∧ oN k_ Ao29 t872 co29) (.slice Ao75 t879.length co75) t879) := ⟨h0_⟩
                have n1_ : Aside0 (Kd.R (Kd.int .i64) 3 w99 w.heap.size (fun k_ => oN k_ Ao75 t879 co75 ∧ oN k_ Ao83 t886 co83 ∧ oN k_ Ao88 t891 co88 ∧ oN k_ Ao94 t894 co94 ∧ some k_ ≠ (v901 : Value).ownBlock ∧ some k_ ≠ (v904 : Value).ownBlock ∧ some k_ ≠ (.slice (some ad899) t857.length co15 : Value).ownBlock ∧ oN k_ Ao12 t851 co12 ∧ oN k_ Ao14 t854 co14 ∧ oN k_ Ao18 t861 co18 ∧ oN k_ Ao21 t864 co21 ∧ oN k_ Ao25 t869 co25 ∧ oN k_ Ao29 t872 co29) (.slice Ao78 t883.length co78) t883) := ⟨h1_⟩
                have n2_ : Aside0 (Kd.R (Kd.int .i64) 3 w99 w.heap.size (fun k_ => oN k_ Ao75 t879 co75 ∧ oN k_ Ao78 t883 co78 ∧ oN k_ Ao88 t891 co88 ∧ oN k_ Ao94 t894 co94 ∧ some k_ ≠ (v901 : Value).ownBlock ∧ some k_ ≠ (v904 : Value).ownBlock ∧ some k_ ≠ (.slice (some ad899) t857.length co15 : Value).ownBlock ∧ oN k_ Ao12 t851 co12 ∧ oN k_ Ao14 t854 co14 ∧ oN k_ Ao18 t861 co18 ∧ oN k_ Ao21 t864 co21 ∧ oN k_ Ao25 t869 co25 ∧ oN k_ Ao29 t872 co29) (.slice Ao83 t886.length co83) t886) := ⟨h2_⟩
                have n3_ : Aside0 (Kd.R (Kd.int .i64) 3 w99 w.heap.size (fun k_ => oN k_ Ao75 t879 co75 ∧ oN k_ Ao78 t883 co78 ∧ oN k_ Ao83 t886 co83 ∧ oN k_ Ao94 t894 co94 ∧ some k_ ≠ (v901 : Value).ownBlock ∧ some k_ ≠ (v904 : Value).ownBlock ∧ some k_ ≠ (.slice (some ad899) t857.length co15 : Value).ownBlock ∧ oN k_ Ao12 t851 co12 ∧ oN k_ Ao14 t854 co14 ∧ oN k_ Ao18 t861 co18 ∧ oN k_ Ao21 t864 co21 ∧ oN k_ Ao25 t869 co25 ∧ oN k_ Ao29 t872 co29) (.slice Ao88 t891.length co88) t891) := ⟨h3_⟩
                have n4_ : Aside0 (Kd.R (Kd.int .i64) 3 w99 w.heap.size (fun k_ => oN k_ Ao75 t879 co75 ∧ oN k_ Ao78 t883 co78 ∧ oN k_ Ao83 t886 co83 ∧ oN k_ Ao88 t891 co88 ∧ some k_ ≠ (v901 : Value).ownBlock ∧ some k_ ≠ (v904 : Value).ownBlock ∧ some k_ ≠ (.slice (some ad899) t857.length co15 : Value).ownBlock ∧ oN k_ Ao12 t851 co12 ∧ oN k_ Ao14 t854 co14 ∧ oN k_ Ao18 t861 co18 ∧ oN k_ Ao21 t864 co21 ∧ oN k_ Ao25 t869 co25 ∧ oN k_ Ao29 t872 co29) (.slice Ao94 t894.length co94) t894) := ⟨h4_⟩
                have n5_ : Aside0 (Kd.R (Kd.int .i64) 3 w99 w.heap.size (fun k_ => oN k_ Ao75 t879 co75 ∧ oN k_ Ao78 t883 co78 ∧ oN k_ Ao83 t886 co83 ∧ oN k_ Ao88 t891 co88 ∧ oN k_ Ao94 t894 co94 ∧ some k_ ≠ (v904 : Value).ownBlock ∧ some k_ ≠ (.slice (some ad899) t857.length co15 : Value).ownBlock ∧ oN k_ Ao12 t851 co12 ∧ oN k_ Ao14 t854 co14 ∧ oN k_ Ao18 t861 co18 ∧ oN k_ Ao21 t864 co21 ∧ oN k_ Ao25 t869 co25 ∧ oN k_ Ao29 t872 co29) v901 t900) := ⟨h5_⟩
                have n6_ : Aside0 (Kd.R (Kd.int .i64) 3 w99 w.heap.size (fun k_ => oN k_ Ao75 t879 co75 ∧ oN k_ Ao78 t883 co78 ∧ oN k_ Ao83 t886 co83 ∧ oN k_ Ao88 t891 co88 ∧ oN k_ Ao94 t894 co94 ∧ some k_ ≠ (v901 : Value).ownBlock ∧ some k_ ≠ (.slice (some ad899) t857.length co15 : Value).ownBlock ∧ oN k_ Ao12 t851 co12 ∧ oN k_ Ao14 t854 co14 ∧ oN k_ Ao18 t861 co18 ∧ oN k_ Ao21 t864 co21 ∧ oN k_ Ao25 t869 co25 ∧ oN k_ Ao29 t872 co29) v904 t903) := ⟨h6_⟩
                have n7_ : Aside0 (Kd.R (Kd.int .i64) 3 w99 w.heap.size (fun k_ => oN k_ Ao75 t879 co75 ∧ oN k_ Ao78 t883 co78 ∧ oN k_ Ao83 t886 co83 ∧ oN k_ Ao88 t891 co88 ∧ oN k_ Ao94 t894 co94 ∧ some k_ ≠ (v901 : Value).ownBlock ∧ some k_ ≠ (v904 : Value).ownBlock ∧ oN k_ Ao12 t851 co12 ∧ oN k_ Ao14 t854 co14 ∧ oN k_ Ao18 t861 co18 ∧ oN k_ Ao21 t864 co21 ∧ oN k_ Ao25 t869 co25 ∧ oN k_ Ao29 t872 co29) (.slice (some ad899) t857.length co15) t857) := ⟨h7_⟩
                have n8_ : Aside0 (Kd.Q (Kd.int .i64) 3 w99 w.heap.size (fun k_ => oN k_ Ao75 t879 co75 ∧ oN k_ Ao78 t883 co78 ∧ oN k_ Ao83 t886 co83 ∧ oN k_ Ao88 t891 co88 ∧ oN k_ Ao94 t894 co94 ∧ some k_ ≠ (v901 : Value).ownBlock ∧ some k_ ≠ (v904 : Value).ownBlock ∧ some k_ ≠ (.slice (some ad899) t857.length co15 : Value).ownBlock ∧ oN k_ Ao14 t854 co14 ∧ oN k_ Ao18 t861 co18 ∧ oN k_ Ao21 t864 co21 ∧ oN k_ Ao25 t869 co25 ∧ oN k_ Ao29 t872 co29) (.slice Ao12 t851.length co12) t851) := ⟨h8_⟩
                have n9_ : Aside0 (Kd.R (Kd.int .i64) 3 w99 w.heap.size (fun k_ => oN k_ Ao75 t879 co75 ∧ oN k_ Ao78 t883 co78 ∧ oN k_ Ao83 t886 co83 ∧ oN k_ Ao88 t891 co88 ∧ oN k_ Ao94 t894 co94 ∧ some k_ ≠ (v901 : Value).ownBlock ∧ some k_ ≠ (v904 : Value).ownBlock ∧ some k_ ≠ (.slice (some ad899) t857.length co15 : Value).ownBlock ∧ oN k_ Ao12 t851 co12 ∧ oN k_ Ao18 t861 co18 ∧ oN k_ Ao21 t864 co21 ∧ oN k_ Ao25 t869 co25 ∧ oN k_ Ao29 t872 co29) (.slice Ao14 t854.length co14) t854) := ⟨h9_⟩
                have n10_ : Aside0 (Kd.Q (Kd.int .i64) 3 w99 w.heap.size (fun k_ => oN k_ Ao75 t879 co75 ∧ oN k_ Ao78 t883 co78 ∧ oN k_ Ao83 t886 co83 ∧ oN k_ Ao88 t891 co88 ∧ oN k_ Ao94 t894 co94 ∧ some k_ ≠ (v901 : Value).ownBlock ∧ some k_ ≠ (v904 : Value).ownBlock ∧ some k_ ≠ (.slice (some ad899) t857.length co15 : Value).ownBlock ∧ oN k_ Ao12 t851 co12 ∧ oN k_ Ao14 t854 co14 ∧ oN k_ Ao21 t864 co21 ∧ oN k_ Ao25 t869 co25 ∧ oN k_ Ao29 t872 co29) (.slice Ao18 t861.length co18) t861) := ⟨h10_⟩
                have n11_ : Aside0 (Kd.R (Kd.int .i64) 3 w99 w.heap.size (fun k_ => oN k_ Ao75 t879 co75 ∧ oN k_ Ao78 t883 co78 ∧ oN k_ Ao83 t886 co83 ∧ oN k_ Ao88 t891 co88 ∧ oN k_ Ao94 t894 co94 ∧ some k_ ≠ (v901 : Value).ownBlock ∧ some k_ ≠ (v904 : Value).ownBlock ∧ some k_ ≠ (.slice (some ad899) t857.length co15 : Value).ownBlock ∧ oN k_ Ao12 t851 co12 ∧ oN k_ Ao14 t854 co14 ∧ oN k_ Ao18 t861 co18 ∧ oN k_ Ao25 t869 co25 ∧ oN k_ Ao29 t872 co29) (.slice Ao21 t864.length co21) t864) := ⟨h11_⟩
                have n12_ : Aside0 (Kd.Q (Kd.int .i64) 3 w99 w.heap.size (fun k_ => oN k_ Ao75 t879 co75 ∧ oN k_ Ao78 t883 co78 ∧ oN k_ Ao83 t886 co83 ∧ oN k_ Ao88 t891 co88 ∧ oN k_ Ao94 t894 co94 ∧ some k_ ≠ (v901 : Value).ownBlock ∧ some k_ ≠ (v904 : Value).ownBlock ∧ some k_ ≠ (.slice (some ad899) t857.length co15 : Value).ownBlock ∧ oN k_ Ao12 t851 co12 ∧ oN k_ Ao14 t854 co14 ∧ oN k_ Ao18 t861 co18 ∧ oN k_ Ao21 t864 co21 ∧ oN k_ Ao29 t872 co29) (.slice Ao25 t869.length co25) t869) := ⟨h12_⟩
                have n13_ : Aside0 (Kd.R (Kd.int .i64) 3 w99 w.heap.size (fun k_ => oN k_ Ao75 t879 co75 ∧ oN k_ Ao78 t883 co78 ∧ oN k_ Ao83 t886 co83 ∧ oN k_ Ao88 t891 co88 ∧ oN k_ Ao94 t894 co94 ∧ some k_ ≠ (v901 : Value).ownBlock ∧ some k_ ≠ (v904 : Value).ownBlock ∧ some k_ ≠ (.slice (some ad899) t857.length co15 : Value).ownBlock ∧ oN k_ Ao12 t851 co12 ∧ oN k_ Ao14 t854 co14 ∧ oN k_ Ao18 t861 co18 ∧ oN k_ Ao21 t864 co21 ∧ oN k_ Ao25 t869 co25) (.slice Ao29 t872.length co29) t872) := ⟨h13_⟩
                have n14_ : Aside0 (w99.heap[gb860]? = some (.cells #[.slice Ao12 t851.length co12, .slice Ao14 t854.length co14] 25 (0, 0))) := ⟨h14_⟩
                have n15_ : Aside0 (w99.heap[gb868]? = some (.cells #[.slice Ao18 t861.length co18, .slice Ao21 t864.length co21] 25 (0, 0))) := ⟨h15_⟩
                have n16_ : Aside0 (w99.heap[gb876]? = some (.cells #[.slice Ao25 t869.length co25, .slice Ao29 t872.length co29] 25 (0, 0))) := ⟨h16_⟩
                have n17_ : Aside0 (w99.heap[gb890]? = some (.cells #[.slice Ao78 t883.length co78, .slice Ao83 t886.length co83] 25 (0, 0))) := ⟨h17_⟩
                have n18_ : Aside0 (w99.heap[gb898]? = some (.cells #[.slice Ao88 t891.length co88, .slice Ao94 t894.length co94] 25 (0, 0))) := ⟨h18_⟩
                have n19_ : Aside0 (w99.heap[gb907]? = some (.cells #[.slice none 0 0, .slice none 0 0] 25 (0, 0))) := ⟨h19_⟩
                have n20_ : Aside0 (w.heap.size ≤ gb907) := ⟨h20_⟩
                have n21_ : Aside0 (w.heap.size ≤ gb907) := ⟨h21_⟩
                have n22_ : Aside0 (gb860 ≠ gb907) := ⟨h22_⟩
                have n23_ : Aside0 (gb907 ≠ gb860) := ⟨h23_⟩
                have n24_ : Aside0 (gb868 ≠ gb907) := ⟨h24_⟩
                have n25_ : Aside0 (gb907 ≠ gb868) := ⟨h25_⟩
                have n26_ : Aside0 (gb876 ≠ gb907) := ⟨h26_⟩
                have n27_ : Aside0 (gb907 ≠ gb876) := ⟨h27_⟩
                have n28_ : Aside0 (gb890 ≠ gb907) := ⟨h28_⟩
                have n29_ : Aside0 (gb907 ≠ gb890) := ⟨h29_⟩
                have n30_ : Aside0 (gb898 ≠ gb907) := ⟨h30_⟩
                have n31_ : Aside0 (gb907 ≠ gb898) := ⟨h31_⟩
                have n32_ : Aside0 (Below w.heap.size w w99) := ⟨h32_⟩
                clear HO_6 HO_861000 HO_861001 HO_869000 HO_869001 HO_877000 HO_877001 HO882 HO885 HO888 HO893 HO896 BK860 BK868 BK876 BK890 BK898 HB h0_ h1_ h2_ h3_ h4_ h5_ h6_ h7_ h8_ h9_ h10_ h11_ h12_ h13_ h14_ h15_ h16_ h17_ h18_ h19_ h20_ h21_ h22_ h23_ h24_ h25_ h26_ h27_ h28_ h29_ h30_ h31_ h32_
                have HO882 := n0_
                have HO885 := n1_
                have HO888 := n2_
                have HO893 := n3_
                have HO896 := n4_
                have HO902 := n5_
                have HO905 := n6_
                have HO_6 := n7_
                have HO_861000 := n8_
                have HO_861001 := n9_
                have HO_869000 := n10_
                have HO_869001 := n11_
                have HO_877000 := n12_
                have HO_877001 := n13_
                have BK860 := n14_
                have BK868 := n15_
                have BK876 := n16_
                have BK890 := n17_
                have BK898 := n18_
                have BK907 := n19_
                have GW907 := n20_
                have GE907 := n21_
                have NB860_907 := n22_
                have NB907_860 := n23_
                have NB868_907 := n24_
                have NB907_868 := n25_
                have NB876_907 := n26_
                have NB907_876 := n27_
                have NB890_907 := n28_
                have NB907_890 := n29_
                have NB898_907 := n30_
                have NB907_898 := n31_
                have HB := n32_
                clear n0_ n1_ n2_ n3_ n4_ n5_ n6_ n7_ n8_ n9_ n10_ n11_ n12_ n13_ n14_ n15_ n16_ n17_ n18_ n19_ n20_ n21_ n22_ n23_ n24_ n25_ n26_ n27_ n28_ n29_ n30_ n31_ n32_
                have hHeld : w99.cell? ⟨gb868, 0, none⟩ = some (.slice Ao18 t861.length co18) ∧ w99.cell? ⟨gb868, 1, none⟩ = some (.slice Ao21 t864.length co21) ∧ w99.cell? (ad899.add ((ji58)).toNat) = some (.int .i64 (rd t857 (ji58))) := hS_
                obtain ⟨Ao100, co100, eo100⟩ := Kd.R_slice HO902.out
                (first | subst eo100 | (injection eo100 with f1_ f2_ f3_; have f4_ := f1_.symm; have f5_ := f3_.symm; clear f1_ f2_ f3_; subst f4_; subst f5_))
                obtain ⟨Ao102, co102, eo102⟩ := Kd.R_slice HO905.out
                (first | subst eo102 | (injection eo102 with f1_ f2_ f3_; have f4_ := f1_.symm; have f5_ := f3_.symm; clear f1_ f2_ f3_; subst f4_; subst f5_))
                refine norm_ (a' := ?_) ?_ ?_
                rotate_left
                ·simp only [putAll, Act.put, List.setIfInBounds_toArray, List.set_cons_zero, List.set_cons_succ]
                 rfl
                refine one_ (i := 10) (N := none) #[true, true, true, true, true, true, true, true, true, true, true, false] rfl rfl (one_of HT_.out (by kernel_rfl)) (by decide) (fun K hK => ?_)
                have hs101 : w99.cell? ⟨gb907, 0, none⟩ = some (.slice none 0 0) := (blk_cell BK907.out 0).trans rfl
                have hfs101 := blk_frozen BK907.out 0
                have hns101_0 := NB860_907.out
                have hns101_1 := NB868_907.out
                have hns101_2 := NB876_907.out
                have hns101_3 := NB890_907.out
                have hns101_4 := NB898_907.out
                have hms101_0 := NB907_860.out
                have hms101_1 := NB907_868.out
                have hms101_2 := NB907_876.out
                have hms101_3 := NB907_890.out
                have hms101_4 := NB907_898.out
                have hs103 : w99.cell? ⟨gb907, 1, none⟩ = some (.slice none 0 0) := (blk_cell BK907.out 1).trans rfl
                have hfs103 := blk_frozen BK907.out 1
                have hns103_0 := NB860_907.out
                have hns103_1 := NB868_907.out
                have hns103_2 := NB876_907.out
                have hns103_3 := NB890_907.out
                have hns103_4 := NB898_907.out
                have hms103_0 := NB907_860.out
                have hms103_1 := NB907_868.out
                have hms103_2 := NB907_876.out
                have hms103_3 := NB907_890.out
                have hms103_4 := NB907_898.out
                refine skip_ (w1 := ?_) (by rfl) rfl ?_ ?_
                rotate_left
                ·go_simp
                 rfl
                refine hK.out _ _ ⟨((cell_far (p := ⟨gb907, _, none⟩) NB868_907.out _).trans (((cell_far (p := ⟨gb907, _, none⟩) NB868_907.out _).trans (hHeld.1)))), ((cell_far (p := ⟨gb907, _, none⟩) NB868_907.out _).trans (((cell_far (p := ⟨gb907, _, none⟩) NB868_907.out _).trans (hHeld.2.1)))), ((cell_far (p := ⟨gb907, _, none⟩) (by first | exact Kd.own_blk (Kd.R_ne HO_6.out BK907.out (by decide)) | (rw [add_block]; exact Kd.own_blk (Kd.R_ne HO_6.out BK907.out (by decide))) | (show (Addr.add _ _).block ≠ _; rw [add_block]; exact Kd.own_blk (Kd.R_ne HO_6.out BK907.out (by decide))) | (dsimp only; exact Kd.own_blk (Kd.R_ne HO_6.out BK907.out (by decide)))) _).trans (((cell_far (p := ⟨gb907, _, none⟩) (by first | exact Kd.own_blk (Kd.R_ne HO_6.out BK907.out (by decide)) | (rw [add_block]; exact Kd.own_blk (Kd.R_ne HO_6.out BK907.out (by decide))) | (show (Addr.add _ _).block ≠ _; rw [add_block]; exact Kd.own_blk (Kd.R_ne HO_6.out BK907.out (by decide))) | (dsimp only; exact Kd.own_blk (Kd.R_ne HO_6.out BK907.out (by decide)))) _).trans (hHeld.2.2))))⟩ (fun hHeld => ?_)
                clear hK K
                refine pure_ (i := 11) (N := some 19) (v := ?_) (a' := ?_) #[true, true, true, true, true, true, true, true, true, true, true, true] rfl rfl (any_of HT_.out (by kernel_rfl)) (fun _ _ _ h => h) (Or.inl ⟨by rfl, ?_⟩) ?_ ?_
                rotate_left
                ·intro w'
                 go_simp
                 with_reducible rfl
                rotate_left
                ·simp only [Act.put, List.setIfInBounds_toArray, List.set_cons_zero, List.set_cons_succ, i64_w, i32_w]
                 rfl
                refine done_ (done_of HT_.out (by kernel_rfl)) ?_
                have hnb104 := NB890_907.out
                have hnc104 := NB907_890.out
                have hcz105_0 := zc0 BK890
                have hcz105_1 := zc1 BK890
                have hfz105_0 := blk_frozen BK890.out 0
                have hfz105_1 := blk_frozen BK890.out 1
                have hnb106 := NB860_907.out
                have hnc106 := NB907_860.out
                have hcz107_0 := zc0 BK860
                have hcz107_1 := zc1 BK860
                have hfz107_0 := blk_frozen BK860.out 0
                have hfz107_1 := blk_frozen BK860.out 1
                try go_wp2_with (first | (go_at_call 22; (with_reducible refine (laws_sameMap.calls kj8 _ _ t883 _ _ t886 _ _ t851 _ _ t854 true _ ?side1 ?side2 ?side3 ?side4 ?side5 ?side6 ?side7 ?side8 A66.out).mono ?_); (case side1 => refine (Kd.R_reads' (e := 3) (base := w.heap.size) (ok := fun k_ => (oN k_ Ao75 t879 co75 ∧ (oN k_ Ao83 t886 co83 ∧ (oN k_ Ao88 t891 co88 ∧ (oN k_ Ao94 t894 co94 ∧ (oN k_ Ao100 t900 co100 ∧ (oN k_ Ao102 t903 co102 ∧ (some k_ ≠ (.slice (some ad899) t857.length co15 : Value).ownBlock ∧ (oN k_ Ao12 t851 co12 ∧ (oN k_ Ao14 t854 co14 ∧ (oN k_ Ao18 t861 co18 ∧ (oN k_ Ao21 t864 co21 ∧ (oN k_ Ao25 t869 co25 ∧ oN k_ Ao29 t872 co29))))))))))))) (n := t883.length) (c := co78) ?_).2.2; exact (rT (Kd.R_mono (rF gb907 1 (rF gb907 0 (rY HO885 BK907) (.slice Ao100 t900.length co100)) (.slice Ao102 t903.length co102)) (fun _ h_ => h_.1)))); (case side2 => exact (Kd.R_reads' HO885.out).2.1); (case side3 => refine (Kd.R_reads' (e := 3) (base := w.heap.size) (ok := fun k_ => (oN k_ Ao75 t879 co75 ∧ (oN k_ Ao78 t883 co78 ∧ (oN k_ Ao88 t891 co88 ∧ (oN k_ Ao94 t894 co94 ∧ (oN k_ Ao100 t900 co100 ∧ (oN k_ Ao102 t903 co102 ∧ (some k_ ≠ (.slice (some ad899) t857.length co15 : Value).ownBlock ∧ (oN k_ Ao12 t851 co12 ∧ (oN k_ Ao14 t854 co14 ∧ (oN k_ Ao18 t861 co18 ∧ (oN k_ Ao21 t864 co21 ∧ (oN k_ Ao25 t869 co25 ∧ oN k_ Ao29 t872 co29))))))))))))) (n := t886.length) (c := co83) ?_).2.2; exact (rT (Kd.R_mono (rF gb907 1 (rF gb907 0 (rY HO888 BK907) (.slice Ao100 t900.length co100)) (.slice Ao102 t903.length co102)) (fun _ h_ => h_.1)))); (case side4 => exact (Kd.R_reads' HO888.out).2.1); (case side5 => refine (Kd.Q_reads' (e := 3) (base := w.heap.size) (ok := fun k_ => (oN k_ Ao75 t879 co75 ∧ (oN k_ Ao78 t883 co78 ∧ (oN k_ Ao83 t886 co83 ∧ (oN k_ Ao88 t891 co88 ∧ (oN k_ Ao94 t894 co94 ∧ (oN k_ Ao100 t900 co100 ∧ (oN k_ Ao102 t903 co102 ∧ (some k_ ≠ (.slice (some ad899) t857.length co15 : Value).ownBlock ∧ (oN k_ Ao14 t854 co14 ∧ (oN k_ Ao18 t861 co18 ∧ (oN k_ Ao21 t864 co21 ∧ (oN k_ Ao25 t869 co25 ∧ oN k_ Ao29 t872 co29))))))))))))) (n := t851.length) (c := co12) ?_).2.2; exact (qT (Kd.Q_mono (qF gb907 1 (qF gb907 0 (Kd.Q_types HO_861000.out BK907.out (by decide)) (.slice Ao100 t900.length co100)) (.slice Ao102 t903.length co102)) (fun _ h_ => h_.1)))); (case side6 => exact (Kd.Q_reads' HO_861000.out).2.1); (case side7 => refine (Kd.R_reads' (e := 3) (base := w.heap.size) (ok := fun k_ => (oN k_ Ao75 t879 co75 ∧ (oN k_ Ao78 t883 co78 ∧ (oN k_ Ao83 t886 co83 ∧ (oN k_ Ao88 t891 co88 ∧ (oN k_ Ao94 t894 co94 ∧ (oN k_ Ao100 t900 co100 ∧ (oN k_ Ao102 t903 co102 ∧ (some k_ ≠ (.slice (some ad899) t857.length co15 : Value).ownBlock ∧ (oN k_ Ao12 t851 co12 ∧ (oN k_ Ao18 t861 co18 ∧ (oN k_ Ao21 t864 co21 ∧ (oN k_ Ao25 t869 co25 ∧ oN k_ Ao29 t872 co29))))))))))))) (n := t854.length) (c := co14) ?_).2.2; exact (rT (Kd.R_mono (rF gb907 1 (rF gb907 0 (rY HO_861001 BK907) (.slice Ao100 t900.length co100)) (.slice Ao102 t903.length co102)) (fun _ h_ => h_.1)))); (case side8 => exact (Kd.R_reads' HO_861001.out).2.1); rintro e w108 ⟨rfl, hb⟩; replace HO_6 := Aside0.mk (Kd.R_below (rT (Kd.R_mono (rF gb907 1 (rF gb907 0 (rY HO_6 BK907) (.slice Ao100 t900.length co100)) (.slice Ao102 t903.length co102)) (fun _ h_ => h_.1))) hb); replace HO_861000 := Aside0.mk (Kd.Q_below (qT (Kd.Q_mono (qF gb907 1 (qF gb907 0 (Kd.Q_types HO_861000.out BK907.out (by decide)) (.slice Ao100 t900.length co100)) (.slice Ao102 t903.length co102)) (fun _ h_ => h_.1))) hb); replace HO_861001 := Aside0.mk (Kd.R_below (rT (Kd.R_mono (rF gb907 1 (rF gb907 0 (rY HO_861001 BK907) (.slice Ao100 t900.length co100)) (.slice Ao102 t903.length co102)) (fun _ h_ => h_.1))) hb); replace HO_869000 := Aside0.mk (Kd.Q_below (qT (Kd.Q_mono (qF gb907 1 (qF gb907 0 (Kd.Q_types HO_869000.out BK907.out (by decide)) (.slice Ao100 t900.length co100)) (.slice Ao102 t903.length co102)) (fun _ h_ => h_.1))) hb); replace HO_869001 := Aside0.mk (Kd.R_below (rT (Kd.R_mono (rF gb907 1 (rF gb907 0 (rY HO_869001 BK907) (.slice Ao100 t900.length co100)) (.slice Ao102 t903.length co102)) (fun _ h_ => h_.1))) hb); replace HO_877000 := Aside0.mk (Kd.Q_below (qT (Kd.Q_mono (qF gb907 1 (qF gb907 0 (Kd.Q_types HO_877000.out BK907.out (by decide)) (.slice Ao100 t900.length co100)) (.slice Ao102 t903.length co102)) (fun _ h_ => h_.1))) hb); replace HO_877001 := Aside0.mk (Kd.R_below (rT (Kd.R_mono (rF gb907 1 (rF gb907 0 (rY HO_877001 BK907) (.slice Ao100 t900.length co100)) (.slice Ao102 t903.length co102)) (fun _ h_ => h_.1))) hb); replace HO882 := Aside0.mk (Kd.R_below (rT (Kd.R_mono (rF gb907 1 (rF gb907 0 (rY HO882 BK907) (.slice Ao100 t900.length co100)) (.slice Ao102 t903.length co102)) (fun _ h_ => h_.1))) hb); replace HO885 := Aside0.mk (Kd.R_below (rT (Kd.R_mono (rF gb907 1 (rF gb907 0 (rY HO885 BK907) (.slice Ao100 t900.length co100)) (.slice Ao102 t903.length co102)) (fun _ h_ => h_.1))) hb); replace HO888 := Aside0.mk (Kd.R_below (rT (Kd.R_mono (rF gb907 1 (rF gb907 0 (rY HO888 BK907) (.slice Ao100 t900.length co100)) (.slice Ao102 t903.length co102)) (fun _ h_ => h_.1))) hb); replace HO893 := Aside0.mk (Kd.R_below (rT (Kd.R_mono (rF gb907 1 (rF gb907 0 (rY HO893 BK907) (.slice Ao100 t900.length co100)) (.slice Ao102 t903.length co102)) (fun _ h_ => h_.1))) hb); replace HO896 := Aside0.mk (Kd.R_below (rT (Kd.R_mono (rF gb907 1 (rF gb907 0 (rY HO896 BK907) (.slice Ao100 t900.length co100)) (.slice Ao102 t903.length co102)) (fun _ h_ => h_.1))) hb); replace HO902 := Aside0.mk (Kd.R_below (rT (Kd.R_mono (rF gb907 1 (rF gb907 0 (rY HO902 BK907) (.slice Ao100 t900.length co100)) (.slice Ao102 t903.length co102)) (fun _ h_ => h_.1))) hb); replace HO905 := Aside0.mk (Kd.R_below (rT (Kd.R_mono (rF gb907 1 (rF gb907 0 (rY HO905 BK907) (.slice Ao100 t900.length co100)) (.slice Ao102 t903.length co102)) (fun _ h_ => h_.1))) hb); replace BK860 := kG BK860 hb; replace BK868 := kG BK868 hb; replace BK876 := kG BK876 hb; replace BK890 := kG BK890 hb; replace BK898 := kG BK898 hb; replace BK907 := Aside0.mk (blk_below (g := gb907) (o := .cells #[.slice Ao100 t900.length co100, .slice Ao102 t903.length co102] 25 (0, 0)) (by (with_reducible repeat (first | refine blk_drewN ?_ _ | refine blk_drew ?_ | refine blk_alloc ?_ _)); refine blk_put (cs := #[.slice Ao100 t900.length co100, .slice none 0 0]) ?_ 1 _ rfl; (with_reducible repeat (first | refine blk_drewN ?_ _ | refine blk_drew ?_ | refine blk_alloc ?_ _)); refine blk_put (cs := #[.slice none 0 0, .slice none 0 0]) ?_ 0 _ rfl; (with_reducible repeat (first | refine blk_drewN ?_ _ | refine blk_drew ?_ | refine blk_alloc ?_ _)); exact BK907.out) hb); replace HB := bS HB hb; (try clear hb); (try clear hb2); (try clear hk); (try clear hi); have hnb109 := NB898_907.out; have hnc109 := NB907_898.out; have hcz110_0 := zc0 BK898; have hcz110_1 := zc1 BK898; have hfz110_0 := blk_frozen BK898.out 0; have hfz110_1 := blk_frozen BK898.out 1; have hnb111 := NB907_868.out; have hnc111 := NB868_907.out; have hnb112 := NB907_876.out; have hnc112 := NB876_907.out; have hcz113_0 := zc0 BK907; have hcz113_1 := zc1 BK907; have hfz113_0 := blk_frozen BK907.out 0; have hfz113_1 := blk_frozen BK907.out 1) | (go_at_call 22; (with_reducible refine (laws_sameMap.calls kj8 _ _ t891 _ _ t894 _ _ t900 _ _ t903 true _ ?side1 ?side2 ?side3 ?side4 ?side5 ?side6 ?side7 ?side8 A68.out).mono ?_); (case side1 => exact cP (Kd.R_reads' HO893.out).2.2); (case side2 => exact (Kd.R_reads' HO893.out).2.1); (case side3 => exact cP (Kd.R_reads' HO896.out).2.2); (case side4 => exact (Kd.R_reads' HO896.out).2.1); (case side5 => exact cP (Kd.R_reads' HO902.out).2.2); (case side6 => exact (Kd.R_reads' HO902.out).2.1); (case side7 => exact cP (Kd.R_reads' HO905.out).2.2); (case side8 => exact (Kd.R_reads' HO905.out).2.1); rintro e w114 ⟨rfl, hb⟩; replace HO_6 := rB HO_6 hb; replace HO_861000 := Aside0.mk (Kd.Q_below (qP HO_861000) hb); replace HO_861001 := rB HO_861001 hb; replace HO_869000 := Aside0.mk (Kd.Q_below (qP HO_869000) hb); replace HO_869001 := rB HO_869001 hb; replace HO_877000 := Aside0.mk (Kd.Q_below (qP HO_877000) hb); replace HO_877001 := rB HO_877001 hb; replace HO882 := rB HO882 hb; replace HO885 := rB HO885 hb; replace HO888 := rB HO888 hb; replace HO893 := rB HO893 hb; replace HO896 := rB HO896 hb; replace HO902 := rB HO902 hb; replace HO905 := rB HO905 hb; replace BK860 := kB BK860 hb; replace BK868 := kB BK868 hb; replace BK876 := kB BK876 hb; replace BK890 := kB BK890 hb; replace BK898 := kB BK898 hb; replace BK907 := kB BK907 hb; replace HB := bS HB hb; (try clear hb); (try clear hb2); (try clear hk); (try clear hi); have hcz115_0 := zc0 BK860; have hcz115_1 := zc1 BK860; have hfz115_0 := blk_frozen BK860.out 0; have hfz115_1 := blk_frozen BK860.out 1; have hcz116_0 := zc0 BK868; have hcz116_1 := zc1 BK868; have hfz116_0 := blk_frozen BK868.out 0; have hfz116_1 := blk_frozen BK868.out 1) | (go_at_call 33; (with_reducible refine (impl_MapSame.calls kj8 _ _ t851 _ _ t854 _ _ t861 _ _ t864 t910 _ ?side1 ?side2 ?side3 ?side4 ?side5 ?side6 ?side7 ?side8 A70.out).mono ?_); (case side1 => exact cP (Kd.Q_reads' HO_861000.out).2.2); (case side2 => exact (Kd.Q_reads' HO_861000.out).2.1); (case side3 => exact cP (Kd.R_reads' HO_861001.out).2.2); (case side4 => exact (Kd.R_reads' HO_861001.out).2.1); (case side5 => exact cP (Kd.Q_reads' HO_869000.out).2.2); (case side6 => exact (Kd.Q_reads' HO_869000.out).2.1); (case side7 => exact cP (Kd.R_reads' HO_869001.out).2.2); (case side8 => exact (Kd.R_reads' HO_869001.out).2.1); rintro e w117 ⟨rfl, hb⟩; replace HO_6 := rB HO_6 hb; replace HO_861000 := Aside0.mk (Kd.Q_below (qP HO_861000) hb); replace HO_861001 := rB HO_861001 hb; replace HO_869000 := Aside0.mk (Kd.Q_below (qP HO_869000) hb); replace HO_869001 := rB HO_869001 hb; replace HO_877000 := Aside0.mk (Kd.Q_below (qP HO_877000) hb); replace HO_877001 := rB HO_877001 hb; replace HO882 := rB HO882 hb; replace HO885 := rB HO885 hb; replace HO888 := rB HO888 hb; replace HO893 := rB HO893 hb; replace HO896 := rB HO896 hb; replace HO902 := rB HO902 hb; replace HO905 := rB HO905 hb; replace BK860 := kB BK860 hb; replace BK868 := kB BK868 hb; replace BK876 := kB BK876 hb; replace BK890 := kB BK890 hb; replace BK898 := kB BK898 hb; replace BK907 := kB BK907 hb; replace HB := bS HB hb; (try clear hb); (try clear hb2); (try clear hk); (try clear hi)))
                go_ret
                exact ⟨by first | rfl | (simp [errW_none, errW_some] <;> rfl) | (simp only [← hji58]; first | rfl | (simp [errW_none, errW_some] <;> rfl)) | (simp [*, errW_none, errW_some] <;> rfl), bP HB⟩
               replace c69 := Bool.eq_false_iff.mpr c69
               subst c69
               replace H : (some false) = some r := by rw [if_neg (show ¬ (false = true) by decide)] at H; exact H
               exact absurd ((Option.some.inj H).trans hr_.out) (by decide)
              replace c67 := Bool.eq_false_iff.mpr c67
              subst c67
              replace H : (some false) = some r := by rw [if_neg (show ¬ (false = true) by decide)] at H; exact H
              exact absurd ((Option.some.inj H).trans hr_.out) (by decide)
             replace c65 := Bool.eq_false_iff.mpr c65
             subst c65
             replace H : (some false) = some r := by rw [if_neg (show ¬ (false = true) by decide)] at H; exact H
             exact absurd ((Option.some.inj H).trans hr_.out) (by decide)
            replace c64 := Bool.eq_false_iff.mpr c64
            subst c64
            replace H : (some false) = some r := by rw [if_neg (show ¬ (false = true) by decide)] at H; exact H
            exact absurd ((Option.some.inj H).trans hr_.out) (by decide)
           replace c63 := Bool.eq_false_iff.mpr c63
           subst c63
           replace H : (some false) = some r := by rw [if_neg (show ¬ (false = true) by decide)] at H; exact H
           exact absurd ((Option.some.inj H).trans hr_.out) (by decide)
          replace c62 := Bool.eq_false_iff.mpr c62
          subst c62
          replace H : (some false) = some r := by rw [if_neg (show ¬ (false = true) by decide)] at H; exact H
          exact absurd ((Option.some.inj H).trans hr_.out) (by decide)
         rw [if_neg c60] at H
         exact absurd H (by simp)
        ·rw [if_neg c59] at H
         exact absurd H (by simp)

/-- THE ONE PURE STATEMENT of laws_FnRename: yours. -/
def laws_FnRename.Pure : Prop := ∀ (l0 : List Int) (l1 : List Int), l0.length ≤ maxLen → l0.length * 1 ≤ 140737488351232 → (∀ x ∈ l0, (Lit.int .u8 x).wf = true) → l1.length ≤ maxLen → l1.length * 1 ≤ 140737488351232 → (∀ x ∈ l1, (Lit.int .u8 x).wf = true) → ∃ k, laws_FnRename.f k l0 l1 = some true
theorem laws_FnRename.walk (P : laws_FnRename.Pure) (a0 : Option Addr) (len0 cap0 : Nat) (z0 : List Int) (a1 : Option Addr) (len1 cap1 : Nat) (z1 : List Int) (w : World) (w0 : (a0 = none ∧ len0 = 0 ∧ cap0 = 0 ∧ z0 = []) ∨ ∃ x, a0 = some x ∧ len0 ≤ cap0 ∧ cap0 ≤ maxLen ∧ z0.length = cap0 ∧ (∀ i, i < z0.length → w.cell? (x.add i) = some (.int .u8 (z0.getD i 0))) ∧ ∀ n ∈ z0, (Lit.int .u8 n).wf = true) (y0 : len0 * 1 ≤ 140737488351232) (w1 : (a1 = none ∧ len1 = 0 ∧ cap1 = 0 ∧ z1 = []) ∨ ∃ x, a1 = some x ∧ len1 ≤ cap1 ∧ cap1 ≤ maxLen ∧ z1.length = cap1 ∧ (∀ i, i < z1.length → w.cell? (x.add i) = some (.int .u8 (z1.getD i 0))) ∧ ∀ n ∈ z1, (Lit.int .u8 n).wf = true) (y1 : len1 * 1 ≤ 140737488351232) :
 Calls Try.prog 7 #[.slice a0 len0 cap0, .slice a1 len1 cap1] w fun e w' => e = .returned (.bool true) ∧ Below w.heap.size w w' := by
 obtain ⟨l0, rfl, hr0, hm0, hw0, hc0⟩ := ReadsInt.ofRowC w0
 obtain ⟨l1, rfl, hr1, hm1, hw1, hc1⟩ := ReadsInt.ofRowC w1
 obtain ⟨k, h⟩ := P l0 l1 hm0 y0 hw0 hm1 y1 hw1
 refine (laws_FnRename.calls k _ _ l0 _ _ l1 true w (Kd.C_of_reads (d := (0 : Int)) (h1 := fun _ => rfl) hr0) hc0 (Kd.C_of_reads (d := (0 : Int)) (h1 := fun _ => rfl) hr1) hc1 ⟨rfl⟩ h).mono ?_
 rintro e w' ⟨rfl, hd⟩
 exact ⟨rfl, hd⟩

end Go.Proofs.Ytihabnfccgjfbaa.F
