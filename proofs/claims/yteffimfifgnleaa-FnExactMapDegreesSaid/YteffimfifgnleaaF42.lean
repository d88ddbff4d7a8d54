/- Contracts: what these Go functions return. -/
import Derived.Test.YteffimfifgnleaaF0
import Derived.Test.YteffimfifgnleaaF18
import Derived.Test.YteffimfifgnleaaF19
import Derived.Test.YteffimfifgnleaaF35
import Derived.Test.YteffimfifgnleaaF38
import Derived.Test.YteffimfifgnleaaF41
namespace Go.Proofs.Yteffimfifgnleaa.F
open Go.RowKit Go.Proofs.YteffimfifgnleaaW.PrintWords Go.Proofs.YteffimfifgnleaaW.PrintLast Go.Proofs.YteffimfifgnleaaW.PrintMore
attribute [local go_sem] max2_int min2_int max_two min_two max_three min_three max_four min_four
set_option linter.unusedVariables false
set_option linter.unusedSimpArgs false

/-! ### laws_FnExactMapDegrees: function 6 -/
mutual
def laws_FnExactMapDegrees.j0 : Nat → List Int → Bool → List Int → Bool → Bool → List Int → List Int → List Int → List Int → Option (Bool)
 | 0, _, _, _, _, _, _, _, _, _ => none
 | k + 1, x4, x5, x7, x8, x40, x639000, x639001, x657000, x657001 => if x40 = true then (some false) else ((laws_toMap.f k x639000 x639001).bind fun bt662 => ((laws_eqMap.f k x657000 x657001 bt662.1 bt662.2).bind fun t668 => (if t668 = true then ((laws_markMap.f k x657000 x657001 1).bind fun bt669 => (if bt669.1 < 0 then (laws_FnExactMapDegrees.j1 k x4 x5 x7 true x639000 x639001) else ((laws_eqIntS.f k x7 x4).bind fun t672 => (if t672 = true then (laws_FnExactMapDegrees.j1 k x4 x5 x7 (x8 != x5) x639000 x639001) else (laws_FnExactMapDegrees.j1 k x4 x5 x7 true x639000 x639001))))) else (some false))))
def laws_FnExactMapDegrees.j1 : Nat → List Int → Bool → List Int → Bool → List Int → List Int → Option (Bool)
 | 0, _, _, _, _, _, _ => none
 | k + 1, x4, x5, x7, x61, x639000, x639001 => if x61 = true then (some false) else ((laws_markIntS.f k x7 1).bind fun bt673 => ((laws_heldIntS.f k bt673.2 1).bind fun t675 => (if t675 < 0 then (some false) else (if t675 = bt673.1 then ((laws_toMap.f k x639000 x639001).bind fun bt676 => ((impl_MapDegrees.f k bt676.1 bt676.2).bind fun bt682 => ((laws_eqIntS.f k bt682.1 x4).bind fun t686 => (if t686 = true then (laws_FnExactMapDegrees.j2 k bt673.2 bt673.1 (bt682.2 != x5)) else (laws_FnExactMapDegrees.j2 k bt673.2 bt673.1 true))))) else (some false)))))
def laws_FnExactMapDegrees.j2 : Nat → List Int → Int → Bool → Option (Bool)
 | 0, _, _, _ => none
 | k + 1, x7, x10, x87 => if x87 = true then (some false) else ((laws_heldIntS.f k x7 1).bind fun t687 => (if t687 < 0 then (some false) else (if t687 = x10 then (some true) else (some false))))
end
def laws_FnExactMapDegrees.f (k : Nat) (l0_0 : List Int) (l0_1 : List Int) : Option (Bool) := (laws_szMap.f l0_0 l0_1 1048576).bind fun t639 => (if t639 < 0 then (some true) else ((laws_toMap.f k l0_0 l0_1).bind fun bt640 => ((spec_MapDegrees.f k bt640.1 bt640.2).bind fun bt646 => ((laws_toMap.f k l0_0 l0_1).bind fun bt650 => ((impl_MapDegrees.f k bt650.1 bt650.2).bind fun bt657 => ((laws_eqIntS.f k bt657.1 bt646.1).bind fun t661 => (if t661 = true then (laws_FnExactMapDegrees.j0 k bt646.1 bt646.2 bt657.1 bt657.2 (bt657.2 != bt646.2) l0_0 l0_1 bt650.1 bt650.2) else (laws_FnExactMapDegrees.j0 k bt646.1 bt646.2 bt657.1 bt657.2 true l0_0 l0_1 bt650.1 bt650.2))))))))
theorem laws_FnExactMapDegrees.mono_l : ∀ k, (∀ y0 y1 y2 y3 y4 y5 y6 y7 y8, LeO (laws_FnExactMapDegrees.j0 k y0 y1 y2 y3 y4 y5 y6 y7 y8) (laws_FnExactMapDegrees.j0 (k + 1) y0 y1 y2 y3 y4 y5 y6 y7 y8)) ∧ (∀ y0 y1 y2 y3 y4 y5, LeO (laws_FnExactMapDegrees.j1 k y0 y1 y2 y3 y4 y5) (laws_FnExactMapDegrees.j1 (k + 1) y0 y1 y2 y3 y4 y5)) ∧ (∀ y0 y1 y2, LeO (laws_FnExactMapDegrees.j2 k y0 y1 y2) (laws_FnExactMapDegrees.j2 (k + 1) y0 y1 y2))
 | 0 => ⟨fun _ _ _ _ _ _ _ _ _ r h => by simp [laws_FnExactMapDegrees.j0] at h, fun _ _ _ _ _ _ r h => by simp [laws_FnExactMapDegrees.j1] at h, fun _ _ _ r h => by simp [laws_FnExactMapDegrees.j2] at h⟩
 | k + 1 => by
  obtain ⟨ih0, ih1, ih2⟩ := laws_FnExactMapDegrees.mono_l k
  refine ⟨?_, ?_, ?_⟩
  ·intro y0 y1 y2 y3 y4 y5 y6 y7 y8
   unfold laws_FnExactMapDegrees.j0
   repeat' first
   | (with_reducible exact ih0 _ _ _ _ _ _ _ _ _)
   | (with_reducible exact ih1 _ _ _ _ _ _)
   | (with_reducible exact ih2 _ _ _)
   | (with_reducible exact impl_MapDegrees.mono _ _ _)
   | (with_reducible exact laws_eqIntS.mono _ _ _)
   | (with_reducible exact laws_eqMap.mono _ _ _ _ _)
   | (with_reducible exact laws_heldIntS.mono _ _ _)
   | (with_reducible exact laws_markIntS.mono _ _ _)
   | (with_reducible exact laws_markMap.mono _ _ _ _)
   | (with_reducible exact laws_toMap.mono _ _ _)
   | (with_reducible exact spec_MapDegrees.mono _ _ _)
   | (with_reducible exact LeO.refl _)
   | (with_reducible exact LeO.none _)
   | (with_reducible refine LeO.ite ?_ ?_)
   | (with_reducible refine LeO.bind ?_ (fun _ => ?_))
   | exact ih0 _ _ _ _ _ _ _ _ _
   | exact ih1 _ _ _ _ _ _
   | exact ih2 _ _ _
   | exact impl_MapDegrees.mono _ _ _
   | exact laws_eqIntS.mono _ _ _
   | exact laws_eqMap.mono _ _ _ _ _
   | exact laws_heldIntS.mono _ _ _
   | exact laws_markIntS.mono _ _ _
   | exact laws_markMap.mono _ _ _ _
   | exact laws_toMap.mono _ _ _
   | exact spec_MapDegrees.mono _ _ _
   | exact LeO.none _
   | refine LeO.ite ?_ ?_
   | refine LeO.bind ?_ (fun _ => ?_)
  ·intro y0 y1 y2 y3 y4 y5
   unfold laws_FnExactMapDegrees.j1
   repeat' first
   | (with_reducible exact ih0 _ _ _ _ _ _ _ _ _)
   | (with_reducible exact ih1 _ _ _ _ _ _)
   | (with_reducible exact ih2 _ _ _)
   | (with_reducible exact impl_MapDegrees.mono _ _ _)
   | (with_reducible exact laws_eqIntS.mono _ _ _)
   | (with_reducible exact laws_eqMap.mono _ _ _ _ _)
   | (with_reducible exact laws_heldIntS.mono _ _ _)
   | (with_reducible exact laws_markIntS.mono _ _ _)
   | (with_reducible exact laws_markMap.mono _ _ _ _)
   | (with_reducible exact laws_toMap.mono _ _ _)
   | (with_reducible exact spec_MapDegrees.mono _ _ _)
   | (with_reducible exact LeO.refl _)
   | (with_reducible exact LeO.none _)
   | (with_reducible refine LeO.ite ?_ ?_)
   | (with_reducible refine LeO.bind ?_ (fun _ => ?_))
   | exact ih0 _ _ _ _ _ _ _ _ _
   | exact ih1 _ _ _ _ _ _
   | exact ih2 _ _ _
   | exact impl_MapDegrees.mono _ _ _
   | exact laws_eqIntS.mono _ _ _
   | exact laws_eqMap.mono _ _ _ _ _
   | exact laws_heldIntS.mono _ _ _
   | exact laws_markIntS.mono _ _ _
   | exact laws_markMap.mono _ _ _ _
   | exact laws_toMap.mono _ _ _
   | exact spec_MapDegrees.mono _ _ _
   | exact LeO.none _
   | refine LeO.ite ?_ ?_
   | refine LeO.bind ?_ (fun _ => ?_)
  ·intro y0 y1 y2
   unfold laws_FnExactMapDegrees.j2
   repeat' first
   | (with_reducible exact ih0 _ _ _ _ _ _ _ _ _)
   | (with_reducible exact ih1 _ _ _ _ _ _)
   | (with_reducible exact ih2 _ _ _)
   | (with_reducible exact impl_MapDegrees.mono _ _ _)
   | (with_reducible exact laws_eqIntS.mono _ _ _)
   | (with_reducible exact laws_eqMap.mono _ _ _ _ _)
   | (with_reducible exact laws_heldIntS.mono _ _ _)
   | (with_reducible exact laws_markIntS.mono _ _ _)
   | (with_reducible exact laws_markMap.mono _ _ _ _)
   | (with_reducible exact laws_toMap.mono _ _ _)
   | (with_reducible exact spec_MapDegrees.mono _ _ _)
   | (with_reducible exact LeO.refl _)
   | (with_reducible exact LeO.none _)
   | (with_reducible refine LeO.ite ?_ ?_)
   | (with_reducible refine LeO.bind ?_ (fun _ => ?_))
   | exact ih0 _ _ _ _ _ _ _ _ _
   | exact ih1 _ _ _ _ _ _
   | exact ih2 _ _ _
   | exact impl_MapDegrees.mono _ _ _
   | exact laws_eqIntS.mono _ _ _
   | exact laws_eqMap.mono _ _ _ _ _
   | exact laws_heldIntS.mono _ _ _
   | exact laws_markIntS.mono _ _ _
   | exact laws_markMap.mono _ _ _ _
   | exact laws_toMap.mono _ _ _
   | exact spec_MapDegrees.mono _ _ _
   | exact LeO.none _
   | refine LeO.ite ?_ ?_
   | refine LeO.bind ?_ (fun _ => ?_)
theorem laws_FnExactMapDegrees.mono : ∀ a0 a1 k, LeO (laws_FnExactMapDegrees.f k a0 a1) (laws_FnExactMapDegrees.f (k + 1) a0 a1) := by
 intro a0 a1 k
 obtain ⟨ih0, ih1, ih2⟩ := laws_FnExactMapDegrees.mono_l k
 unfold laws_FnExactMapDegrees.f
 repeat' first
  | (with_reducible exact ih0 _ _ _ _ _ _ _ _ _)
  | (with_reducible exact ih1 _ _ _ _ _ _)
  | (with_reducible exact ih2 _ _ _)
  | (with_reducible exact impl_MapDegrees.mono _ _ _)
  | (with_reducible exact laws_eqIntS.mono _ _ _)
  | (with_reducible exact laws_eqMap.mono _ _ _ _ _)
  | (with_reducible exact laws_heldIntS.mono _ _ _)
  | (with_reducible exact laws_markIntS.mono _ _ _)
  | (with_reducible exact laws_markMap.mono _ _ _ _)
  | (with_reducible exact laws_toMap.mono _ _ _)
  | (with_reducible exact spec_MapDegrees.mono _ _ _)
  | (with_reducible exact LeO.refl _)
  | (with_reducible exact LeO.none _)
  | (with_reducible refine LeO.ite ?_ ?_)
  | (with_reducible refine LeO.bind ?_ (fun _ => ?_))
  | exact ih0 _ _ _ _ _ _ _ _ _
  | exact ih1 _ _ _ _ _ _
  | exact ih2 _ _ _
  | exact impl_MapDegrees.mono _ _ _
  | exact laws_eqIntS.mono _ _ _
  | exact laws_eqMap.mono _ _ _ _ _
  | exact laws_heldIntS.mono _ _ _
  | exact laws_markIntS.mono _ _ _
  | exact laws_markMap.mono _ _ _ _
  | exact laws_toMap.mono _ _ _
  | exact spec_MapDegrees.mono _ _ _
  | exact LeO.none _
  | refine LeO.ite ?_ ?_
  | refine LeO.bind ?_ (fun _ => ?_)
set_option maxHeartbeats 8000000 in
set_option maxRecDepth 100000 in
theorem laws_FnExactMapDegrees.calls (k : Nat) (A0_0 : Option Addr) (c0_0 : Nat) (l0_0 : List Int) (A0_1 : Option Addr) (c0_1 : Nat) (l0_1 : List Int) (r : Bool) (w : World) (hr0_0 : Kd.C (Kd.int .i64) w A0_0 l0_0.length l0_0) (hc0_0 : l0_0.length ≤ c0_0) (hr0_1 : Kd.C (Kd.int .i64) w A0_1 l0_1.length l0_1) (hc0_1 : l0_1.length ≤ c0_1) (hr_ : Aside0 (r = true)) (h : laws_FnExactMapDegrees.f k l0_0 l0_1 = some r) :
 Calls Try.prog 6 #[.agg #[.slice A0_0 l0_0.length c0_0, .slice A0_1 l0_1.length c0_1]] w fun e w' => e = .returned (.bool r) ∧ Below w.heap.size w w' := by
 have hu37 := Try.underlying37
 have hu40 := Try.underlying40
 have HR0_0 := Aside0.mk hr0_0
 have HC0_0 := Aside0.mk hc0_0
 clear hr0_0 hc0_0
 have HR0_1 := Aside0.mk hr0_1
 have HC0_1 := Aside0.mk hc0_1
 clear hr0_1 hc0_1
 have HB := Aside0.mk (Below.refl w.heap.size w)
 have H : ((laws_szMap.f l0_0 l0_1 1048576).bind fun t639 => (if t639 < 0 then (some true) else ((laws_toMap.f k l0_0 l0_1).bind fun bt640 => ((spec_MapDegrees.f k bt640.1 bt640.2).bind fun bt646 => ((laws_toMap.f k l0_0 l0_1).bind fun bt650 => ((impl_MapDegrees.f k bt650.1 bt650.2).bind fun bt657 => ((laws_eqIntS.f k bt657.1 bt646.1).bind fun t661 => (if t661 = true then (laws_FnExactMapDegrees.j0 k bt646.1 bt646.2 bt657.1 bt657.2 (bt657.2 != bt646.2) l0_0 l0_1 bt650.1 bt650.2) else (laws_FnExactMapDegrees.j0 k bt646.1 bt646.2 bt657.1 bt657.2 true l0_0 l0_1 bt650.1 bt650.2))))))))) = some r := h
 clear h
 replace H := Option.bind_eq_some_iff.mp H
 obtain ⟨t639, A20, H⟩ := H
 replace H : (if t639 < 0 then (some true) else ((laws_toMap.f k l0_0 l0_1).bind fun bt640 => ((spec_MapDegrees.f k bt640.1 bt640.2).bind fun bt646 => ((laws_toMap.f k l0_0 l0_1).bind fun bt650 => ((impl_MapDegrees.f k bt650.1 bt650.2).bind fun bt657 => ((laws_eqIntS.f k bt657.1 bt646.1).bind fun t661 => (if t661 = true then (laws_FnExactMapDegrees.j0 k bt646.1 bt646.2 bt657.1 bt657.2 (bt657.2 != bt646.2) l0_0 l0_1 bt650.1 bt650.2) else (laws_FnExactMapDegrees.j0 k bt646.1 bt646.2 bt657.1 bt657.2 true l0_0 l0_1 bt650.1 bt650.2)))))))) = some r := H
 have A2 := Aside0.mk A20
 clear A20
 by_cases c3 : t639 < 0
 ·rw [if_pos c3] at H
  have c3b0 : decide (t639 < 0) = true := decide_eq_true c3
  clear c3
  obtain rfl := Option.some.inj H
  go_enter Try.func6, Try.ntmps6
  go_wp2_with (first | ((with_reducible refine gate_dst (N := 1) rfl ?_); refine bE 1 #[.slice A0_0 l0_0.length c0_0, .slice A0_1 l0_1.length c0_1] 37 ?_; intro gb638 hg w4 hbox hb; have BK638 := Aside0.mk (hbox); have GW638 := gS HB hg; have GE638 := gS HB hg; replace HB := bS HB hb; clear hb hbox hg; have hcz5_0 := zc0 BK638; have hcz5_1 := zc1 BK638; have hfz5_0 := blk_frozen BK638.out 0; have hfz5_1 := blk_frozen BK638.out 1) | ((with_reducible refine gate_callee (f := 25) rfl ?_); refine gL (some 16) Try.func25 #[.agg #[.slice A0_0 l0_0.length c0_0, .slice A0_1 l0_1.length c0_1], .int .i64 1048576] ?_; (with_reducible refine (laws_szMap.calls _ _ l0_0 _ _ l0_1 1048576 t639 _ ?side1 ?side2 ?side3 ?side4 A2.out).mono ?_); (case side1 => exact cB HR0_0 HB); (case side2 => exact HC0_0.out); (case side3 => exact cB HR0_1 HB); (case side4 => exact HC0_1.out); rintro e w6 ⟨rfl, hb⟩; refine ⟨_, rfl, ?_⟩; replace BK638 := kB BK638 hb; replace HB := bS HB hb; (try clear hb); (try clear hb2); (try clear hk); (try clear hi)))
  go_ret
  exact ⟨eR, bP HB⟩
 ·rw [if_neg c3] at H
  have c3b0 : decide (t639 < 0) = false := decide_eq_false c3
  clear c3
  replace H := Option.bind_eq_some_iff.mp H
  obtain ⟨⟨t640, t643⟩, A70, H⟩ := H
  replace H : ((spec_MapDegrees.f k t640 t643).bind fun bt646 => ((laws_toMap.f k l0_0 l0_1).bind fun bt650 => ((impl_MapDegrees.f k bt650.1 bt650.2).bind fun bt657 => ((laws_eqIntS.f k bt657.1 bt646.1).bind fun t661 => (if t661 = true then (laws_FnExactMapDegrees.j0 k bt646.1 bt646.2 bt657.1 bt657.2 (bt657.2 != bt646.2) l0_0 l0_1 bt650.1 bt650.2) else (laws_FnExactMapDegrees.j0 k bt646.1 bt646.2 bt657.1 bt657.2 true l0_0 l0_1 bt650.1 bt650.2)))))) = some r := H
  have A7 := Aside0.mk A70
  clear A70
  replace H := Option.bind_eq_some_iff.mp H
  obtain ⟨⟨t646, t649⟩, A80, H⟩ := H
  replace H : ((laws_toMap.f k l0_0 l0_1).bind fun bt650 => ((impl_MapDegrees.f k bt650.1 bt650.2).bind fun bt657 => ((laws_eqIntS.f k bt657.1 t646).bind fun t661 => (if t661 = true then (laws_FnExactMapDegrees.j0 k t646 t649 bt657.1 bt657.2 (bt657.2 != t649) l0_0 l0_1 bt650.1 bt650.2) else (laws_FnExactMapDegrees.j0 k t646 t649 bt657.1 bt657.2 true l0_0 l0_1 bt650.1 bt650.2))))) = some r := H
  have A8 := Aside0.mk A80
  clear A80
  replace H := Option.bind_eq_some_iff.mp H
  obtain ⟨⟨t650, t653⟩, A90, H⟩ := H
  replace H : ((impl_MapDegrees.f k t650 t653).bind fun bt657 => ((laws_eqIntS.f k bt657.1 t646).bind fun t661 => (if t661 = true then (laws_FnExactMapDegrees.j0 k t646 t649 bt657.1 bt657.2 (bt657.2 != t649) l0_0 l0_1 t650 t653) else (laws_FnExactMapDegrees.j0 k t646 t649 bt657.1 bt657.2 true l0_0 l0_1 t650 t653)))) = some r := H
  have A9 := Aside0.mk A90
  clear A90
  replace H := Option.bind_eq_some_iff.mp H
  obtain ⟨⟨t657, t660⟩, A100, H⟩ := H
  replace H : ((laws_eqIntS.f k t657 t646).bind fun t661 => (if t661 = true then (laws_FnExactMapDegrees.j0 k t646 t649 t657 t660 (t660 != t649) l0_0 l0_1 t650 t653) else (laws_FnExactMapDegrees.j0 k t646 t649 t657 t660 true l0_0 l0_1 t650 t653))) = some r := H
  have A10 := Aside0.mk A100
  clear A100
  have HC11 := Aside0.mk H
  clear H
  go_enter Try.func6, Try.ntmps6
  go_upto_region 8 with (first | ((with_reducible refine gate_dst (N := 1) rfl ?_); refine bE 1 #[.slice A0_0 l0_0.length c0_0, .slice A0_1 l0_1.length c0_1] 37 ?_; intro gb638 hg w12 hbox hb; have BK638 := Aside0.mk (hbox); have GW638 := gS HB hg; have GE638 := gS HB hg; replace HB := bS HB hb; clear hb hbox hg; have hcz13_0 := zc0 BK638; have hcz13_1 := zc1 BK638; have hfz13_0 := blk_frozen BK638.out 0; have hfz13_1 := blk_frozen BK638.out 1) | ((with_reducible refine gate_callee (f := 25) rfl ?_); refine gL (some 16) Try.func25 #[.agg #[.slice A0_0 l0_0.length c0_0, .slice A0_1 l0_1.length c0_1], .int .i64 1048576] ?_; (with_reducible refine (laws_szMap.calls _ _ l0_0 _ _ l0_1 1048576 t639 _ ?side1 ?side2 ?side3 ?side4 A2.out).mono ?_); (case side1 => exact cB HR0_0 HB); (case side2 => exact HC0_0.out); (case side3 => exact cB HR0_1 HB); (case side4 => exact HC0_1.out); rintro e w14 ⟨rfl, hb⟩; refine ⟨_, rfl, ?_⟩; replace BK638 := kB BK638 hb; replace HB := bS HB hb; (try clear hb); (try clear hb2); (try clear hk); (try clear hi); have hcz15_0 := zc0 BK638; have hcz15_1 := zc1 BK638; have hfz15_0 := blk_frozen BK638.out 0; have hfz15_1 := blk_frozen BK638.out 1) | ((with_reducible refine gate_callee (f := 27) rfl ?_); refine gL (some 21) Try.func27 #[.agg #[.slice A0_0 l0_0.length c0_0, .slice A0_1 l0_1.length c0_1]] ?_; (with_reducible refine (laws_toMap.calls k _ _ l0_0 _ _ l0_1 t640 t643 _ ?side1 ?side2 ?side3 ?side4 A7.out).mono ?_); (case side1 => exact cB HR0_0 HB); (case side2 => exact HC0_0.out); (case side3 => exact cB HR0_1 HB); (case side4 => exact HC0_1.out); rintro e w16 ⟨v641, v644, rfl, ho0, ho1, hb⟩; refine ⟨_, rfl, ?_⟩; have HO642 := rL ho0 HB; have HO645 := rL ho1 HB; replace BK638 := kB BK638 hb; replace HB := bS HB hb; (try clear hb); (try clear hb2); (try clear hk); (try clear hi); (try clear ho0); (try clear ho1); obtain ⟨Ao17, co17, eo17⟩ := Kd.R_slice HO642.out; subst eo17; obtain ⟨Ao18, co18, eo18⟩ := Kd.R_slice HO645.out; subst eo18) | ((with_reducible refine gate_callee (f := 26) rfl ?_); refine gL (some 22) Try.func26 #[.agg #[.slice Ao17 t640.length co17, .slice Ao18 t643.length co18]] ?_; (with_reducible refine (spec_MapDegrees.calls k _ _ t640 _ _ t643 t646 t649 _ ?side1 ?side2 ?side3 ?side4 A8.out).mono ?_); (case side1 => exact cP (Kd.R_reads' HO642.out).2.2); (case side2 => exact (Kd.R_reads' HO642.out).2.1); (case side3 => exact cP (Kd.R_reads' HO645.out).2.2); (case side4 => exact (Kd.R_reads' HO645.out).2.1); rintro e w19 ⟨v647, rfl, ho0, hb⟩; refine ⟨_, rfl, ?_⟩; have HO648 := Aside0.mk (Kd.R_lower (Kd.R_new' (Kd.R_new' ho0 (Kd.R_lt (rP HO642))) (Kd.R_lt (rP HO645))) (below_size (bP HB))); replace HO642 := Aside0.mk (Kd.R_elder' (rP HO642) (Kd.R_base ho0) hb); replace HO645 := Aside0.mk (Kd.R_elder' (rP HO645) (Kd.R_base ho0) hb); replace BK638 := kB BK638 hb; replace HB := bS HB hb; (try clear hb); (try clear hb2); (try clear hk); (try clear hi); (try clear ho0); have hcz20_0 := zc0 BK638; have hcz20_1 := zc1 BK638; have hfz20_0 := blk_frozen BK638.out 0; have hfz20_1 := blk_frozen BK638.out 1) | ((with_reducible refine gate_callee (f := 27) rfl ?_); refine gL (some 26) Try.func27 #[.agg #[.slice A0_0 l0_0.length c0_0, .slice A0_1 l0_1.length c0_1]] ?_; (with_reducible refine (laws_toMap.calls k _ _ l0_0 _ _ l0_1 t650 t653 _ ?side1 ?side2 ?side3 ?side4 A9.out).mono ?_); (case side1 => exact cB HR0_0 HB); (case side2 => exact HC0_0.out); (case side3 => exact cB HR0_1 HB); (case side4 => exact HC0_1.out); rintro e w21 ⟨v651, v654, rfl, ho0, ho1, hb⟩; refine ⟨_, rfl, ?_⟩; have HO652 := Aside0.mk (Kd.R_lower (Kd.R_new' (Kd.R_new' (Kd.R_new' ho0 (Kd.R_lt (rP HO642))) (Kd.R_lt (rP HO645))) (Kd.R_lt (rP HO648))) (below_size (bP HB))); have HO655 := Aside0.mk (Kd.R_lower (Kd.R_new' (Kd.R_new' (Kd.R_new' ho1 (Kd.R_lt (rP HO642))) (Kd.R_lt (rP HO645))) (Kd.R_lt (rP HO648))) (below_size (bP HB))); replace HO642 := Aside0.mk (Kd.R_mono (Kd.R_told (Kd.R_told (Kd.R_old (rP HO642) hb) (Kd.R_base ho0)) (Kd.R_base ho1)) (fun _ h_ => h_.1)); replace HO645 := Aside0.mk (Kd.R_mono (Kd.R_told (Kd.R_told (Kd.R_old (rP HO645) hb) (Kd.R_base ho0)) (Kd.R_base ho1)) (fun _ h_ => h_.1)); replace HO648 := Aside0.mk (Kd.R_mono (Kd.R_told (Kd.R_told (Kd.R_old (rP HO648) hb) (Kd.R_base ho0)) (Kd.R_base ho1)) (fun _ h_ => h_.1)); replace BK638 := kB BK638 hb; replace HB := bS HB hb; (try clear hb); (try clear hb2); (try clear hk); (try clear hi); (try clear ho0); (try clear ho1)) | ((with_reducible refine gate_dst (N := 6) rfl ?_); refine bE 6 #[.slice none 0 0, .slice none 0 0] 40 ?_; intro gb656 hg w22 hbox hb; replace HO642 := rB HO642 hb; replace HO645 := rB HO645 hb; replace HO648 := rB HO648 hb; replace HO652 := rB HO652 hb; replace HO655 := rB HO655 hb; have BK656 := Aside0.mk (hbox); have GW656 := gS HB hg; have GE656 := gS HB hg; replace HB := bS HB hb; have NB638_656 := nL BK638 hg; have NB656_638 := nG BK638 hg; replace BK638 := kB BK638 hb; clear hb hbox hg; obtain ⟨Ao23, co23, eo23⟩ := Kd.R_slice HO652.out; subst eo23; have hnb24 := NB656_638.out; have hnc24 := NB638_656.out; have hcz25_0 := zc0 BK656; have hcz25_1 := zc1 BK656; have hfz25_0 := blk_frozen BK656.out 0; have hfz25_1 := blk_frozen BK656.out 1; obtain ⟨Ao26, co26, eo26⟩ := Kd.R_slice HO655.out; subst eo26) | ((with_reducible refine gate_callee (f := 28) rfl ?_); refine gL (some 29) Try.func28 #[.agg #[.slice Ao23 t650.length co23, .slice Ao26 t653.length co26]] ?_; (with_reducible refine (impl_MapDegrees.calls k _ _ t650 _ _ t653 t657 t660 _ ?side1 ?side2 ?side3 ?side4 A10.out).mono ?_); (case side1 => refine (Kd.R_reads' (e := 3) (base := w.heap.size) (ok := fun k_ => (((some k_ ≠ (.slice Ao26 t653.length co26 : Value).ownBlock ∧ some k_ ≠ (.slice Ao17 t640.length co17 : Value).ownBlock) ∧ some k_ ≠ (.slice Ao18 t643.length co18 : Value).ownBlock) ∧ some k_ ≠ (v647 : Value).ownBlock)) (n := t650.length) (c := co23) ?_).2.2; exact (rT (Kd.R_mono (Kd.R_far (p := ⟨gb656, 1, none⟩) (Kd.R_far (p := ⟨gb656, 0, none⟩) (Kd.R_types HO652.out BK656.out (by decide)) (fun _ hk => hk.2) (.slice Ao23 t650.length co23)) (fun _ hk => hk.2) (.slice Ao26 t653.length co26)) (fun _ h_ => h_.1)))); (case side2 => exact (Kd.R_reads' HO652.out).2.1); (case side3 => refine (Kd.R_reads' (e := 3) (base := w.heap.size) (ok := fun k_ => (((some k_ ≠ (.slice Ao23 t650.length co23 : Value).ownBlock ∧ some k_ ≠ (.slice Ao17 t640.length co17 : Value).ownBlock) ∧ some k_ ≠ (.slice Ao18 t643.length co18 : Value).ownBlock) ∧ some k_ ≠ (v647 : Value).ownBlock)) (n := t653.length) (c := co26) ?_).2.2; exact (rT (Kd.R_mono (Kd.R_far (p := ⟨gb656, 1, none⟩) (Kd.R_far (p := ⟨gb656, 0, none⟩) (Kd.R_types HO655.out BK656.out (by decide)) (fun _ hk => hk.2) (.slice Ao23 t650.length co23)) (fun _ hk => hk.2) (.slice Ao26 t653.length co26)) (fun _ h_ => h_.1)))); (case side4 => exact (Kd.R_reads' HO655.out).2.1); rintro e w27 ⟨v658, rfl, ho0, hb⟩; refine ⟨_, rfl, ?_⟩; have HO659 := Aside0.mk (Kd.R_lower (Kd.R_new' (Kd.R_new' (Kd.R_new' (Kd.R_new' (Kd.R_new' ho0 (Kd.R_lt (rT (Kd.R_mono (Kd.R_far (p := ⟨gb656, 1, none⟩) (Kd.R_far (p := ⟨gb656, 0, none⟩) (Kd.R_types HO642.out BK656.out (by decide)) (fun _ hk => hk.2) (.slice Ao23 t650.length co23)) (fun _ hk => hk.2) (.slice Ao26 t653.length co26)) (fun _ h_ => h_.1))))) (Kd.R_lt (rT (Kd.R_mono (Kd.R_far (p := ⟨gb656, 1, none⟩) (Kd.R_far (p := ⟨gb656, 0, none⟩) (Kd.R_types HO645.out BK656.out (by decide)) (fun _ hk => hk.2) (.slice Ao23 t650.length co23)) (fun _ hk => hk.2) (.slice Ao26 t653.length co26)) (fun _ h_ => h_.1))))) (Kd.R_lt (rT (Kd.R_mono (Kd.R_far (p := ⟨gb656, 1, none⟩) (Kd.R_far (p := ⟨gb656, 0, none⟩) (Kd.R_types HO648.out BK656.out (by decide)) (fun _ hk => hk.2) (.slice Ao23 t650.length co23)) (fun _ hk => hk.2) (.slice Ao26 t653.length co26)) (fun _ h_ => h_.1))))) (Kd.R_lt (rT (Kd.R_mono (Kd.R_far (p := ⟨gb656, 1, none⟩) (Kd.R_far (p := ⟨gb656, 0, none⟩) (Kd.R_types HO652.out BK656.out (by decide)) (fun _ hk => hk.2) (.slice Ao23 t650.length co23)) (fun _ hk => hk.2) (.slice Ao26 t653.length co26)) (fun _ h_ => h_.1))))) (Kd.R_lt (rT (Kd.R_mono (Kd.R_far (p := ⟨gb656, 1, none⟩) (Kd.R_far (p := ⟨gb656, 0, none⟩) (Kd.R_types HO655.out BK656.out (by decide)) (fun _ hk => hk.2) (.slice Ao23 t650.length co23)) (fun _ hk => hk.2) (.slice Ao26 t653.length co26)) (fun _ h_ => h_.1))))) (below_size (bP HB))); replace HO642 := Aside0.mk (Kd.R_elder' (rT (Kd.R_mono (Kd.R_far (p := ⟨gb656, 1, none⟩) (Kd.R_far (p := ⟨gb656, 0, none⟩) (Kd.R_types HO642.out BK656.out (by decide)) (fun _ hk => hk.2) (.slice Ao23 t650.length co23)) (fun _ hk => hk.2) (.slice Ao26 t653.length co26)) (fun _ h_ => h_.1))) (Kd.R_base ho0) hb); replace HO645 := Aside0.mk (Kd.R_elder' (rT (Kd.R_mono (Kd.R_far (p := ⟨gb656, 1, none⟩) (Kd.R_far (p := ⟨gb656, 0, none⟩) (Kd.R_types HO645.out BK656.out (by decide)) (fun _ hk => hk.2) (.slice Ao23 t650.length co23)) (fun _ hk => hk.2) (.slice Ao26 t653.length co26)) (fun _ h_ => h_.1))) (Kd.R_base ho0) hb); replace HO648 := Aside0.mk (Kd.R_elder' (rT (Kd.R_mono (Kd.R_far (p := ⟨gb656, 1, none⟩) (Kd.R_far (p := ⟨gb656, 0, none⟩) (Kd.R_types HO648.out BK656.out (by decide)) (fun _ hk => hk.2) (.slice Ao23 t650.length co23)) (fun _ hk => hk.2) (.slice Ao26 t653.length co26)) (fun _ h_ => h_.1))) (Kd.R_base ho0) hb); replace HO652 := Aside0.mk (Kd.R_elder' (rT (Kd.R_mono (Kd.R_far (p := ⟨gb656, 1, none⟩) (Kd.R_far (p := ⟨gb656, 0, none⟩) (Kd.R_types HO652.out BK656.out (by decide)) (fun _ hk => hk.2) (.slice Ao23 t650.length co23)) (fun _ hk => hk.2) (.slice Ao26 t653.length co26)) (fun _ h_ => h_.1))) (Kd.R_base ho0) hb); replace HO655 := Aside0.mk (Kd.R_elder' (rT (Kd.R_mono (Kd.R_far (p := ⟨gb656, 1, none⟩) (Kd.R_far (p := ⟨gb656, 0, none⟩) (Kd.R_types HO655.out BK656.out (by decide)) (fun _ hk => hk.2) (.slice Ao23 t650.length co23)) (fun _ hk => hk.2) (.slice Ao26 t653.length co26)) (fun _ h_ => h_.1))) (Kd.R_base ho0) hb); replace BK638 := kG BK638 hb; replace BK656 := Aside0.mk (blk_below (g := gb656) (o := .cells #[.slice Ao23 t650.length co23, .slice Ao26 t653.length co26] 40 (0, 0)) (by (with_reducible repeat (first | refine blk_drewN ?_ _ | refine blk_drew ?_ | refine blk_alloc ?_ _)); refine blk_put (cs := #[.slice Ao23 t650.length co23, .slice none 0 0]) ?_ 1 _ rfl; (with_reducible repeat (first | refine blk_drewN ?_ _ | refine blk_drew ?_ | refine blk_alloc ?_ _)); refine blk_put (cs := #[.slice none 0 0, .slice none 0 0]) ?_ 0 _ rfl; (with_reducible repeat (first | refine blk_drewN ?_ _ | refine blk_drew ?_ | refine blk_alloc ?_ _)); exact BK656.out) hb); replace HB := bS HB hb; (try clear hb); (try clear hb2); (try clear hk); (try clear hi); (try clear ho0)))
  (try simp only [Act.put, List.setIfInBounds_toArray, List.set_cons_zero, List.set_cons_succ])
  go_cut [40] (fun v40 wc => ∃ (kq : Nat) (x40_10 : Bool), v40 = .bool x40_10 ∧ Aside0 (laws_FnExactMapDegrees.j0 kq t646 t649 t657 t660 x40_10 l0_0 l0_1 t650 t653 = some r) ∧ Aside0 (kq ≤ k) ∧ Aside0 (Kd.R (Kd.int .i64) 3 wc w.heap.size (fun k_ => some k_ ≠ (v658 : Value).ownBlock ∧ some k_ ≠ ((.slice Ao23 t650.length co23) : Value).ownBlock ∧ some k_ ≠ ((.slice Ao26 t653.length co26) : Value).ownBlock) v647 t646) ∧ Aside0 (Kd.R (Kd.int .i64) 3 wc w.heap.size (fun k_ => some k_ ≠ (v647 : Value).ownBlock ∧ some k_ ≠ ((.slice Ao23 t650.length co23) : Value).ownBlock ∧ some k_ ≠ ((.slice Ao26 t653.length co26) : Value).ownBlock) v658 t657) ∧ Aside0 (Kd.R (Kd.int .i64) 3 wc w.heap.size (fun k_ => some k_ ≠ (v647 : Value).ownBlock ∧ some k_ ≠ (v658 : Value).ownBlock ∧ some k_ ≠ ((.slice Ao26 t653.length co26) : Value).ownBlock) (.slice Ao23 t650.length co23) t650) ∧ Aside0 (Kd.R (Kd.int .i64) 3 wc w.heap.size (fun k_ => some k_ ≠ (v647 : Value).ownBlock ∧ some k_ ≠ (v658 : Value).ownBlock ∧ some k_ ≠ ((.slice Ao23 t650.length co23) : Value).ownBlock) (.slice Ao26 t653.length co26) t653) ∧ Aside0 (wc.heap[gb638]? = some (.cells #[(.slice A0_0 l0_0.length c0_0), (.slice A0_1 l0_1.length c0_1)] 37 (0, 0))) ∧ Aside0 (wc.heap[gb656]? = some (.cells #[(.slice Ao23 t650.length co23), (.slice Ao26 t653.length co26)] 40 (0, 0))) ∧ Aside0 (Below w.heap.size w wc))
  case first =>
   have H := HC11.out
   clear HC11
   replace H := Option.bind_eq_some_iff.mp H
   obtain ⟨t661, A280, H⟩ := H
   replace H : (if t661 = true then (laws_FnExactMapDegrees.j0 k t646 t649 t657 t660 (t660 != t649) l0_0 l0_1 t650 t653) else (laws_FnExactMapDegrees.j0 k t646 t649 t657 t660 true l0_0 l0_1 t650 t653)) = some r := H
   have A28 := Aside0.mk A280
   clear A280
   by_cases c29 : t661 = true
   ·subst c29
    have H1 : (laws_FnExactMapDegrees.j0 k t646 t649 t657 t660 (t660 != t649) l0_0 l0_1 t650 t653) = some r := by rw [if_pos rfl] at H; exact H
    clear H
    have H := H1
    clear H1
    have H' := Aside0.mk H
    clear H
    obtain ⟨Ao30, co30, eo30⟩ := Kd.R_slice HO659.out
    subst eo30
    obtain ⟨Ao31, co31, eo31⟩ := Kd.R_slice HO648.out
    subst eo31
    go_wp2_with (first | ((with_reducible refine gate_callee (f := 12) rfl ?_); refine gL (some 34) Try.func12 #[.slice Ao30 t657.length co30, .slice Ao31 t646.length co31] ?_; (with_reducible refine (laws_eqIntS.calls k _ _ t657 _ _ t646 true _ ?side1 ?side2 ?side3 ?side4 A28.out).mono ?_); (case side1 => exact cP (Kd.R_reads' HO659.out).2.2); (case side2 => exact (Kd.R_reads' HO659.out).2.1); (case side3 => exact cP (Kd.R_reads' HO648.out).2.2); (case side4 => exact (Kd.R_reads' HO648.out).2.1); rintro e w' ⟨rfl, ⟨nd, rfl⟩⟩; refine ⟨_, rfl, ?_⟩))
    go_meet
    case rel => exact ⟨_, ((t660 != t649)), eS, H', ⟨by first | omega | exact Nat.le_refl _⟩, ⟨by (with_reducible repeat (first | apply Kd.R_alloc | apply Kd.R_drewN | apply Kd.R_drew)); exact Kd.R_mono HO648.out (fun _ hk => ⟨hk.2, ⟨hk.1.1.2, hk.1.2⟩⟩)⟩, ⟨by (with_reducible repeat (first | apply Kd.R_alloc | apply Kd.R_drewN | apply Kd.R_drew)); exact Kd.R_mono HO659.out (fun _ hk => ⟨hk.1.1.2, ⟨hk.1.2, hk.2⟩⟩)⟩, ⟨by (with_reducible repeat (first | apply Kd.R_alloc | apply Kd.R_drewN | apply Kd.R_drew)); exact Kd.R_mono HO652.out (fun _ hk => ⟨hk.1.2, ⟨hk.2, hk.1.1.1.1⟩⟩)⟩, ⟨by (with_reducible repeat (first | apply Kd.R_alloc | apply Kd.R_drewN | apply Kd.R_drew)); exact Kd.R_mono HO655.out (fun _ hk => ⟨hk.1.2, ⟨hk.2, hk.1.1.1.1⟩⟩)⟩, ⟨kP BK638⟩, ⟨kP BK656⟩, ⟨bP HB⟩⟩
   ·replace c29 := Bool.eq_false_iff.mpr c29
    subst c29
    have H1 : (laws_FnExactMapDegrees.j0 k t646 t649 t657 t660 true l0_0 l0_1 t650 t653) = some r := by rw [if_neg (show ¬ (false = true) by decide)] at H; exact H
    clear H
    have H := H1
    clear H1
    have H' := Aside0.mk H
    clear H
    obtain ⟨Ao32, co32, eo32⟩ := Kd.R_slice HO659.out
    subst eo32
    obtain ⟨Ao33, co33, eo33⟩ := Kd.R_slice HO648.out
    subst eo33
    go_wp2_with (first | ((with_reducible refine gate_callee (f := 12) rfl ?_); refine gL (some 34) Try.func12 #[.slice Ao32 t657.length co32, .slice Ao33 t646.length co33] ?_; (with_reducible refine (laws_eqIntS.calls k _ _ t657 _ _ t646 false _ ?side1 ?side2 ?side3 ?side4 A28.out).mono ?_); (case side1 => exact cP (Kd.R_reads' HO659.out).2.2); (case side2 => exact (Kd.R_reads' HO659.out).2.1); (case side3 => exact cP (Kd.R_reads' HO648.out).2.2); (case side4 => exact (Kd.R_reads' HO648.out).2.1); rintro e w' ⟨rfl, ⟨nd, rfl⟩⟩; refine ⟨_, rfl, ?_⟩))
    go_meet
    case rel => exact ⟨_, (true), eS, H', ⟨by first | omega | exact Nat.le_refl _⟩, ⟨by (with_reducible repeat (first | apply Kd.R_alloc | apply Kd.R_drewN | apply Kd.R_drew)); exact Kd.R_mono HO648.out (fun _ hk => ⟨hk.2, ⟨hk.1.1.2, hk.1.2⟩⟩)⟩, ⟨by (with_reducible repeat (first | apply Kd.R_alloc | apply Kd.R_drewN | apply Kd.R_drew)); exact Kd.R_mono HO659.out (fun _ hk => ⟨hk.1.1.2, ⟨hk.1.2, hk.2⟩⟩)⟩, ⟨by (with_reducible repeat (first | apply Kd.R_alloc | apply Kd.R_drewN | apply Kd.R_drew)); exact Kd.R_mono HO652.out (fun _ hk => ⟨hk.1.2, ⟨hk.2, hk.1.1.1.1⟩⟩)⟩, ⟨by (with_reducible repeat (first | apply Kd.R_alloc | apply Kd.R_drewN | apply Kd.R_drew)); exact Kd.R_mono HO655.out (fun _ hk => ⟨hk.1.2, ⟨hk.2, hk.1.1.1.1⟩⟩)⟩, ⟨kP BK638⟩, ⟨kP BK656⟩, ⟨bP HB⟩⟩
  case rest =>
   clear HC11
   try clear c1
   try clear c2
   try clear p2
   try clear c3
   try clear c3b0
   try clear c6
   try clear c12
   try clear c24
   try clear c25
   try clear c26
   try clear c27
   try clear c28
   try clear c29
   try clear hcz13_0
   try clear hcz13_1
   try clear hcz15_0
   try clear hcz15_1
   try clear hcz20_0
   try clear hcz20_1
   try clear hcz25_0
   try clear hcz25_1
   try clear hcz5_0
   try clear hcz5_1
   try clear hfz13_0
   try clear hfz13_1
   try clear hfz15_0
   try clear hfz15_1
   try clear hfz20_0
   try clear hfz20_1
   try clear hfz25_0
   try clear hfz25_1
   try clear hfz5_0
   try clear hfz5_1
   obtain ⟨kq, x40_10, rfl, HA, HJ10, HO_4, HO_7, HO_657000, HO_657001, BK638, BK656, HB⟩ := hcut
   cases kq with
   | zero => exact absurd HA.out (by simp [laws_FnExactMapDegrees.j0])
   | succ kj10 =>
    have H := HA.out
    clear HA
    simp only [laws_FnExactMapDegrees.j0] at H
    by_cases c34 : x40_10 = true
    ·subst c34
     have H1 : (some false) = some r := by rw [if_pos rfl] at H; exact H
     clear H
     have H := H1
     clear H1
     exact absurd ((Option.some.inj H).trans hr_.out) (by decide)
    ·replace c34 := Bool.eq_false_iff.mpr c34
     subst c34
     have H1 : ((laws_toMap.f kj10 l0_0 l0_1).bind fun bt662 => ((laws_eqMap.f kj10 t650 t653 bt662.1 bt662.2).bind fun t668 => (if t668 = true then ((laws_markMap.f kj10 t650 t653 1).bind fun bt669 => (if bt669.1 < 0 then (laws_FnExactMapDegrees.j1 kj10 t646 t649 t657 true l0_0 l0_1) else ((laws_eqIntS.f kj10 t657 t646).bind fun t672 => (if t672 = true then (laws_FnExactMapDegrees.j1 kj10 t646 t649 t657 (t660 != t649) l0_0 l0_1) else (laws_FnExactMapDegrees.j1 kj10 t646 t649 t657 true l0_0 l0_1))))) else (some false)))) = some r := by rw [if_neg (show ¬ (false = true) by decide)] at H; exact H
     clear H
     have H := H1
     clear H1
     replace H := Option.bind_eq_some_iff.mp H
     obtain ⟨⟨t662, t665⟩, A350, H⟩ := H
     replace H : ((laws_eqMap.f kj10 t650 t653 t662 t665).bind fun t668 => (if t668 = true then ((laws_markMap.f kj10 t650 t653 1).bind fun bt669 => (if bt669.1 < 0 then (laws_FnExactMapDegrees.j1 kj10 t646 t649 t657 true l0_0 l0_1) else ((laws_eqIntS.f kj10 t657 t646).bind fun t672 => (if t672 = true then (laws_FnExactMapDegrees.j1 kj10 t646 t649 t657 (t660 != t649) l0_0 l0_1) else (laws_FnExactMapDegrees.j1 kj10 t646 t649 t657 true l0_0 l0_1))))) else (some false))) = some r := H
     have A35 := Aside0.mk A350
     clear A350
     replace H := Option.bind_eq_some_iff.mp H
     obtain ⟨t668, A360, H⟩ := H
     replace H : (if t668 = true then ((laws_markMap.f kj10 t650 t653 1).bind fun bt669 => (if bt669.1 < 0 then (laws_FnExactMapDegrees.j1 kj10 t646 t649 t657 true l0_0 l0_1) else ((laws_eqIntS.f kj10 t657 t646).bind fun t672 => (if t672 = true then (laws_FnExactMapDegrees.j1 kj10 t646 t649 t657 (t660 != t649) l0_0 l0_1) else (laws_FnExactMapDegrees.j1 kj10 t646 t649 t657 true l0_0 l0_1))))) else (some false)) = some r := H
     have A36 := Aside0.mk A360
     clear A360
     by_cases c37 : t668 = true
     ·subst c37
      have H1 : ((laws_markMap.f kj10 t650 t653 1).bind fun bt669 => (if bt669.1 < 0 then (laws_FnExactMapDegrees.j1 kj10 t646 t649 t657 true l0_0 l0_1) else ((laws_eqIntS.f kj10 t657 t646).bind fun t672 => (if t672 = true then (laws_FnExactMapDegrees.j1 kj10 t646 t649 t657 (t660 != t649) l0_0 l0_1) else (laws_FnExactMapDegrees.j1 kj10 t646 t649 t657 true l0_0 l0_1))))) = some r := by rw [if_pos rfl] at H; exact H
      clear H
      have H := H1
      clear H1
      replace H := Option.bind_eq_some_iff.mp H
      obtain ⟨⟨t669, t670, t671⟩, A380, H⟩ := H
      replace H : (if t669 < 0 then (laws_FnExactMapDegrees.j1 kj10 t646 t649 t657 true l0_0 l0_1) else ((laws_eqIntS.f kj10 t657 t646).bind fun t672 => (if t672 = true then (laws_FnExactMapDegrees.j1 kj10 t646 t649 t657 (t660 != t649) l0_0 l0_1) else (laws_FnExactMapDegrees.j1 kj10 t646 t649 t657 true l0_0 l0_1)))) = some r := H
      have A38 := Aside0.mk A380
      clear A380
      have HC39 := Aside0.mk H
      clear H
      try go_wp2
      have n0_ := Aside0.mk (Kd.R_drew HO_4.out)
      have n1_ := Aside0.mk (Kd.R_drew HO_7.out)
      have n2_ := Aside0.mk (Kd.R_drew HO_657000.out)
      have n3_ := Aside0.mk (Kd.R_drew HO_657001.out)
      have n4_ := Aside0.mk (blk_drew BK638.out)
      have n5_ := Aside0.mk (blk_drew BK656.out)
      have n6_ := Aside0.mk (below_drew1 HB.out)
      clear HO_4
      clear HO_7
      clear HO_657000
      clear HO_657001
      clear BK638
      clear BK656
      clear HB
      have HO_4 := n0_
      have HO_7 := n1_
      have HO_657000 := n2_
      have HO_657001 := n3_
      have BK638 := n4_
      have BK656 := n5_
      have HB := n6_
      clear n0_ n1_ n2_ n3_ n4_ n5_ n6_
      refine start_ (n := 5) (S := fun w' => w'.cell? ⟨gb656, 0, none⟩ = some (.slice Ao23 t650.length co23) ∧ w'.cell? ⟨gb656, 1, none⟩ = some (.slice Ao26 t653.length co26) ∧ w'.cell? ⟨gb638, 0, none⟩ = some (.slice A0_0 l0_0.length c0_0) ∧ w'.cell? ⟨gb638, 1, none⟩ = some (.slice A0_1 l0_1.length c0_1)) (ds := []) #[false, false, false, false, false] (by kernel_rfl) rfl rfl ⟨(blk_cell BK656.out 0).trans rfl, (blk_cell BK656.out 1).trans rfl, (blk_cell BK638.out 0).trans rfl, (blk_cell BK638.out 1).trans rfl⟩ (fun hHeld => ?_)
      generalize wc.drew = w40 at HO_4 HO_7 HO_657000 HO_657001 BK638 BK656 HB hHeld ⊢
      refine take_ (i := 0) (N := some 41) (v := ?_) (a' := ?_) #[true, false, false, false, false] rfl rfl (by kernel_rfl) (fun _ _ _ h => h) (Or.inl ⟨by rfl, ?_⟩) hHeld ?_ ?_
      rotate_left
      ·rintro w' ⟨s0, s1, s2, s3⟩
       go_simp
       with_reducible rfl
      rotate_left
      ·simp only [Act.put, List.setIfInBounds_toArray, List.set_cons_zero, List.set_cons_succ, i64_w, i32_w]
       rfl
      refine take_ (i := 1) (N := some 42) (v := ?_) (a' := ?_) #[true, true, false, false, false] rfl rfl (by kernel_rfl) (fun _ _ _ h => h) (Or.inl ⟨by rfl, ?_⟩) hHeld ?_ ?_
      rotate_left
      ·rintro w' ⟨s0, s1, s2, s3⟩
       go_simp
       with_reducible rfl
      rotate_left
      ·simp only [Act.put, List.setIfInBounds_toArray, List.set_cons_zero, List.set_cons_succ, i64_w, i32_w]
       rfl
      refine one_ (i := 2) (N := some 43) #[true, true, true, false, false] rfl rfl (by kernel_rfl) (by decide) (fun K hK => ?_)
      refine goes_ Try.func27 (by kernel_rfl) rfl #[.agg #[.slice A0_0 l0_0.length c0_0, .slice A0_1 l0_1.length c0_1]] (by rfl) rfl rfl (by (try simp only [List.map_toArray, List.map_cons, List.map_nil]); first | done | rfl | (simp only [List.length_drop, List.length_take]; rfl)) ?_
      with_reducible refine (laws_toMap.calls kj10 _ _ l0_0 _ _ l0_1 t662 t665 _ ?side1 ?side2 ?side3 ?side4 A35.out).mono ?_
      (case side1 => exact cB HR0_0 HB)
      (case side2 => exact HC0_0.out)
      (case side3 => exact cB HR0_1 HB)
      (case side4 => exact HC0_1.out)
      rintro e w41 ⟨v663, v666, rfl, ho0, ho1, hb⟩
      refine ⟨_, rfl, ?_⟩
      have n0_ := Aside0.mk (Kd.R_mono (Kd.R_told (Kd.R_told (Kd.R_old (rP HO_4) hb) (Kd.R_base ho0)) (Kd.R_base ho1)) (fun _ h_ => h_.1))
      have n1_ := Aside0.mk (Kd.R_mono (Kd.R_told (Kd.R_told (Kd.R_old (rP HO_7) hb) (Kd.R_base ho0)) (Kd.R_base ho1)) (fun _ h_ => h_.1))
      have n2_ := Aside0.mk (Kd.R_mono (Kd.R_told (Kd.R_told (Kd.R_old (rP HO_657000) hb) (Kd.R_base ho0)) (Kd.R_base ho1)) (fun _ h_ => h_.1))
      have n3_ := Aside0.mk (Kd.R_mono (Kd.R_told (Kd.R_told (Kd.R_old (rP HO_657001) hb) (Kd.R_base ho0)) (Kd.R_base ho1)) (fun _ h_ => h_.1))
      have n4_ := Aside0.mk (Kd.R_lower (Kd.R_new' (Kd.R_new' (Kd.R_new' (Kd.R_new' ho0 (Kd.R_lt (rP HO_4))) (Kd.R_lt (rP HO_7))) (Kd.R_lt (rP HO_657000))) (Kd.R_lt (rP HO_657001))) (below_size (bP HB)))
      have n5_ := Aside0.mk (Kd.R_lower (Kd.R_new' (Kd.R_new' (Kd.R_new' (Kd.R_new' ho1 (Kd.R_lt (rP HO_4))) (Kd.R_lt (rP HO_7))) (Kd.R_lt (rP HO_657000))) (Kd.R_lt (rP HO_657001))) (below_size (bP HB)))
      have n6_ := kB BK638 hb
      have n7_ := kB BK656 hb
      have n8_ := bS HB hb
      clear HO_4
      clear HO_7
      clear HO_657000
      clear HO_657001
      clear BK638
      clear BK656
      clear HB
      have HO_4 := n0_
      have HO_7 := n1_
      have HO_657000 := n2_
      have HO_657001 := n3_
      have HO664 := n4_
      have HO667 := n5_
      have BK638 := n6_
      have BK656 := n7_
      have HB := n8_
      clear n0_ n1_ n2_ n3_ n4_ n5_ n6_ n7_ n8_
      (try clear hb)
      (try clear hb2)
      (try clear hk)
      (try clear hi)
      (try clear ho0)
      (try clear ho1)
      obtain ⟨Ao42, co42, eo42⟩ := Kd.R_slice HO664.out
      (first | subst eo42 | (injection eo42 with f1_ f2_ f3_; have f4_ := f1_.symm; have f5_ := f3_.symm; clear f1_ f2_ f3_; subst f4_; subst f5_))
      obtain ⟨Ao43, co43, eo43⟩ := Kd.R_slice HO667.out
      (first | subst eo43 | (injection eo43 with f1_ f2_ f3_; have f4_ := f1_.symm; have f5_ := f3_.symm; clear f1_ f2_ f3_; subst f4_; subst f5_))
      refine hK.out _ _ ⟨(blk_cell BK656.out 0).trans rfl, (blk_cell BK656.out 1).trans rfl, (blk_cell BK638.out 0).trans rfl, (blk_cell BK638.out 1).trans rfl⟩ (fun hHeld => ?_)
      clear hK K
      refine norm_ (a' := ?_) ?_ ?_
      rotate_left
      ·show Act.put _ (some 43) _ = _
       simp only [Act.put, List.setIfInBounds_toArray, List.set_cons_zero, List.set_cons_succ, i64_w, i32_w]
       rfl
      refine one_ (i := 3) (N := some 44) #[true, true, true, true, false] rfl rfl (by kernel_rfl) (by decide) (fun K hK => ?_)
      refine goes_ Try.func29 (by kernel_rfl) rfl #[.agg #[.slice Ao23 t650.length co23, .slice Ao26 t653.length co26], .agg #[.slice Ao42 t662.length co42, .slice Ao43 t665.length co43]] (by rfl) rfl rfl (by (try simp only [List.map_toArray, List.map_cons, List.map_nil]); first | done | rfl | (simp only [List.length_drop, List.length_take]; rfl)) ?_
      with_reducible refine (laws_eqMap.calls kj10 _ _ t650 _ _ t653 _ _ t662 _ _ t665 true _ ?side1 ?side2 ?side3 ?side4 ?side5 ?side6 ?side7 ?side8 A36.out).mono ?_
      (case side1 => exact cP (Kd.R_reads' HO_657000.out).2.2)
      (case side2 => exact (Kd.R_reads' HO_657000.out).2.1)
      (case side3 => exact cP (Kd.R_reads' HO_657001.out).2.2)
      (case side4 => exact (Kd.R_reads' HO_657001.out).2.1)
      (case side5 => exact cP (Kd.R_reads' HO664.out).2.2)
      (case side6 => exact (Kd.R_reads' HO664.out).2.1)
      (case side7 => exact cP (Kd.R_reads' HO667.out).2.2)
      (case side8 => exact (Kd.R_reads' HO667.out).2.1)
      rintro e w44 ⟨rfl, hb⟩
      refine ⟨_, rfl, ?_⟩
      have n0_ := rB HO_4 hb
      have n1_ := rB HO_7 hb
      have n2_ := rB HO_657000 hb
      have n3_ := rB HO_657001 hb
      have n4_ := rB HO664 hb
      have n5_ := rB HO667 hb
      have n6_ := kB BK638 hb
      have n7_ := kB BK656 hb
      have n8_ := bS HB hb
      clear HO_4
      clear HO_7
      clear HO_657000
      clear HO_657001
      clear HO664
      clear HO667
      clear BK638
      clear BK656
      clear HB
      have HO_4 := n0_
      have HO_7 := n1_
      have HO_657000 := n2_
      have HO_657001 := n3_
      have HO664 := n4_
      have HO667 := n5_
      have BK638 := n6_
      have BK656 := n7_
      have HB := n8_
      clear n0_ n1_ n2_ n3_ n4_ n5_ n6_ n7_ n8_
      (try clear hb)
      (try clear hb2)
      (try clear hk)
      (try clear hi)
      refine hK.out _ _ ⟨(blk_cell BK656.out 0).trans rfl, (blk_cell BK656.out 1).trans rfl, (blk_cell BK638.out 0).trans rfl, (blk_cell BK638.out 1).trans rfl⟩ (fun hHeld => ?_)
      clear hK K
      refine norm_ (a' := ?_) ?_ ?_
      rotate_left
      ·show Act.put _ (some 44) _ = _
       simp only [Act.put, List.setIfInBounds_toArray, List.set_cons_zero, List.set_cons_succ, i64_w, i32_w]
       rfl
      refine pure_ (i := 4) (N := some 45) (v := ?_) (a' := ?_) #[true, true, true, true, true] rfl rfl (by kernel_rfl) (fun _ _ _ h => h) (Or.inl ⟨by rfl, ?_⟩) ?_ ?_
      rotate_left
      ·intro w'
       go_simp
       with_reducible rfl
      rotate_left
      ·simp only [Act.put, List.setIfInBounds_toArray, List.set_cons_zero, List.set_cons_succ, i64_w, i32_w]
       rfl
      refine done_ (by kernel_rfl) ?_
      have hnb45 := NB656_638.out
      have hnc45 := NB638_656.out
      have hcz46_0 := zc0 BK656
      have hcz46_1 := zc1 BK656
      have hfz46_0 := blk_frozen BK656.out 0
      have hfz46_1 := blk_frozen BK656.out 1
      go_upto_region 14 with (first | ((with_reducible refine gate_callee (f := 30) rfl ?_); refine gL (some 48) Try.func30 #[.agg #[.slice Ao23 t650.length co23, .slice Ao26 t653.length co26], .int .i64 1] ?_; (with_reducible refine (laws_markMap.calls kj10 (fun k_ => some k_ = (.slice Ao23 t650.length co23 : Value).ownBlock) (.slice Ao23 t650.length co23) t650 (fun k_ => some k_ = (.slice Ao26 t653.length co26 : Value).ownBlock) (.slice Ao26 t653.length co26) t653 1 t669 t670 t671 w _ ?side1 ?side2 ?side3 ?side4 ?side5 A38.out).mono ?_); (case side1 => exact bP HB); (case side2 => exact Kd.R_tight rfl HO_657000.out); (case side3 => exact fun k_ e_ => (HO_657000.out.1 k_ e_.symm).1.1.2.2); (case side4 => exact Kd.R_tight rfl HO_657001.out); (case side5 => exact fun k_ e_ => (HO_657001.out.1 k_ e_.symm).1.1.2.2); rintro e w47 ⟨rfl, hy0, hy1, hb, hkp⟩; refine ⟨_, rfl, ?_⟩; replace HO_4 := Aside0.mk (Kd.R_mono (ok' := fun k_ => some k_ ≠ (v658 : Value).ownBlock ∧ some k_ ≠ (.slice Ao23 t650.length co23 : Value).ownBlock ∧ some k_ ≠ (.slice Ao26 t653.length co26 : Value).ownBlock ∧ some k_ ≠ (.slice Ao42 t662.length co42 : Value).ownBlock ∧ some k_ ≠ (.slice Ao43 t665.length co43 : Value).ownBlock) (Kd.R_keptB (HO_4.out) hkp (fun k_ hk_ hs_ => Or.elim hs_ (fun e_ => (hk_.1.1.2.1) e_) (fun e_ => (hk_.1.1.2.2) e_))) (fun k_ hk_ => ⟨hk_.1.1.1.1, hk_.1.1.1.2.1, hk_.1.1.1.2.2, hk_.1.1.2, hk_.1.2⟩)); replace HO_7 := Aside0.mk (Kd.R_mono (ok' := fun k_ => some k_ ≠ (v647 : Value).ownBlock ∧ some k_ ≠ (.slice Ao23 t650.length co23 : Value).ownBlock ∧ some k_ ≠ (.slice Ao26 t653.length co26 : Value).ownBlock ∧ some k_ ≠ (.slice Ao42 t662.length co42 : Value).ownBlock ∧ some k_ ≠ (.slice Ao43 t665.length co43 : Value).ownBlock) (Kd.R_keptB (HO_7.out) hkp (fun k_ hk_ hs_ => Or.elim hs_ (fun e_ => (hk_.1.1.2.1) e_) (fun e_ => (hk_.1.1.2.2) e_))) (fun k_ hk_ => ⟨hk_.1.1.1.1, hk_.1.1.1.2.1, hk_.1.1.1.2.2, hk_.1.1.2, hk_.1.2⟩)); replace BK638 := Aside0.mk (blk_kept (kP BK638) hkp (fun hs_ => Or.elim hs_ (fun e_ => (fun e_ => (Kd.R_ne HO_657000.out BK638.out (by decide)) e_) e_) (fun e_ => (fun e_ => (Kd.R_ne HO_657001.out BK638.out (by decide)) e_) e_))); replace BK656 := Aside0.mk (blk_kept (kP BK656) hkp (fun hs_ => Or.elim hs_ (fun e_ => (fun e_ => (Kd.R_ne HO_657000.out BK656.out (by decide)) e_) e_) (fun e_ => (fun e_ => (Kd.R_ne HO_657001.out BK656.out (by decide)) e_) e_))); replace HO_657000 := Aside0.mk (Kd.R_reok rfl hy0 (fun k_ e_ => HO_657000.out.1 k_ e_)); replace HO_657001 := Aside0.mk (Kd.R_reok rfl hy1 (fun k_ e_ => HO_657001.out.1 k_ e_)); replace HO664 := Aside0.mk (Kd.R_mono (ok' := fun k_ => some k_ ≠ (v647 : Value).ownBlock ∧ some k_ ≠ (v658 : Value).ownBlock ∧ some k_ ≠ (.slice Ao23 t650.length co23 : Value).ownBlock ∧ some k_ ≠ (.slice Ao26 t653.length co26 : Value).ownBlock ∧ some k_ ≠ (.slice Ao43 t665.length co43 : Value).ownBlock) (Kd.R_keptB (HO664.out) hkp (fun k_ hk_ hs_ => Or.elim hs_ (fun e_ => (hk_.1.2) e_) (fun e_ => (hk_.2) e_))) (fun k_ hk_ => ⟨hk_.1.1.1.1.2, hk_.1.1.1.2, hk_.1.1.2, hk_.1.2, hk_.1.1.1.1.1⟩)); replace HO667 := Aside0.mk (Kd.R_mono (ok' := fun k_ => some k_ ≠ (v647 : Value).ownBlock ∧ some k_ ≠ (v658 : Value).ownBlock ∧ some k_ ≠ (.slice Ao23 t650.length co23 : Value).ownBlock ∧ some k_ ≠ (.slice Ao26 t653.length co26 : Value).ownBlock ∧ some k_ ≠ (.slice Ao42 t662.length co42 : Value).ownBlock) (Kd.R_keptB (HO667.out) hkp (fun k_ hk_ hs_ => Or.elim hs_ (fun e_ => (hk_.1.2) e_) (fun e_ => (hk_.2) e_))) (fun k_ hk_ => ⟨hk_.1.1.1.1.2, hk_.1.1.1.2, hk_.1.1.2, hk_.1.2, hk_.1.1.1.1.1⟩)); replace HB := Aside0.mk (hb); (try clear hb); (try clear hkp); (try clear hy0); (try clear hy1)))
      (try simp only [Act.put, List.setIfInBounds_toArray, List.set_cons_zero, List.set_cons_succ])
      go_cut [61] (fun v61 wc => ∃ (kq : Nat) (x61_38 : Bool), v61 = .bool x61_38 ∧ Aside0 (laws_FnExactMapDegrees.j1 kq t646 t649 t657 x61_38 l0_0 l0_1 = some r) ∧ Aside0 (kq ≤ kj10) ∧ Aside0 (Kd.R (Kd.int .i64) 3 wc w.heap.size (fun k_ => some k_ ≠ (v658 : Value).ownBlock ∧ some k_ ≠ ((.slice Ao23 t650.length co23) : Value).ownBlock ∧ some k_ ≠ ((.slice Ao26 t653.length co26) : Value).ownBlock) v647 t646) ∧ Aside0 (Kd.R (Kd.int .i64) 3 wc w.heap.size (fun k_ => some k_ ≠ (v647 : Value).ownBlock ∧ some k_ ≠ ((.slice Ao23 t650.length co23) : Value).ownBlock ∧ some k_ ≠ ((.slice Ao26 t653.length co26) : Value).ownBlock) v658 t657) ∧ Aside0 (Kd.R (Kd.int .i64) 3 wc w.heap.size (fun k_ => some k_ ≠ (v647 : Value).ownBlock ∧ some k_ ≠ (v658 : Value).ownBlock ∧ some k_ ≠ ((.slice Ao26 t653.length co26) : Value).ownBlock) (.slice Ao23 t650.length co23) t670) ∧ Aside0 (Kd.R (Kd.int .i64) 3 wc w.heap.size (fun k_ => some k_ ≠ (v647 : Value).ownBlock ∧ some k_ ≠ (v658 : Value).ownBlock ∧ some k_ ≠ ((.slice Ao23 t650.length co23) : Value).ownBlock) (.slice Ao26 t653.length co26) t671) ∧ Aside0 (wc.heap[gb638]? = some (.cells #[(.slice A0_0 l0_0.length c0_0), (.slice A0_1 l0_1.length c0_1)] 37 (0, 0))) ∧ Aside0 (wc.heap[gb656]? = some (.cells #[(.slice Ao23 t650.length co23), (.slice Ao26 t653.length co26)] 40 (0, 0))) ∧ Aside0 (Below w.heap.size w wc))
      case first =>
       have H := HC39.out
       clear HC39
       by_cases c48 : t669 < 0
       ·rw [if_pos c48] at H
        have c48b0 : decide (t669 < 0) = true := decide_eq_true c48
        clear c48
        (first | rw [c48b0] | (simp only [i64_w, i32_w]; rw [c48b0]) | skip)
        have H' := Aside0.mk H
        clear H
        go_wp2
        go_meet
        case rel => exact ⟨_, (true), eS, H', ⟨by have := HJ10.out; first | omega | exact Nat.le_refl _⟩, ⟨by (with_reducible repeat (first | apply Kd.R_alloc | apply Kd.R_drewN | apply Kd.R_drew)); exact Kd.R_mono HO_4.out (fun _ hk => ⟨hk.1, ⟨hk.2.1, hk.2.2.1⟩⟩)⟩, ⟨by (with_reducible repeat (first | apply Kd.R_alloc | apply Kd.R_drewN | apply Kd.R_drew)); exact Kd.R_mono HO_7.out (fun _ hk => ⟨hk.1, ⟨hk.2.1, hk.2.2.1⟩⟩)⟩, ⟨by (with_reducible repeat (first | apply Kd.R_alloc | apply Kd.R_drewN | apply Kd.R_drew)); exact Kd.R_mono HO_657000.out (fun _ hk => ⟨hk.1.1.1, ⟨hk.1.1.2.1, hk.1.1.2.2⟩⟩)⟩, ⟨by (with_reducible repeat (first | apply Kd.R_alloc | apply Kd.R_drewN | apply Kd.R_drew)); exact Kd.R_mono HO_657001.out (fun _ hk => ⟨hk.1.1.1, ⟨hk.1.1.2.1, hk.1.1.2.2⟩⟩)⟩, ⟨kP BK638⟩, ⟨kP BK656⟩, ⟨bP HB⟩⟩
       ·rw [if_neg c48] at H
        have c48b0 : decide (t669 < 0) = false := decide_eq_false c48
        clear c48
        (first | rw [c48b0] | (simp only [i64_w, i32_w]; rw [c48b0]) | skip)
        replace H := Option.bind_eq_some_iff.mp H
        obtain ⟨t672, A490, H⟩ := H
        replace H : (if t672 = true then (laws_FnExactMapDegrees.j1 kj10 t646 t649 t657 (t660 != t649) l0_0 l0_1) else (laws_FnExactMapDegrees.j1 kj10 t646 t649 t657 true l0_0 l0_1)) = some r := H
        have A49 := Aside0.mk A490
        clear A490
        by_cases c50 : t672 = true
        ·subst c50
         have H1 : (laws_FnExactMapDegrees.j1 kj10 t646 t649 t657 (t660 != t649) l0_0 l0_1) = some r := by rw [if_pos rfl] at H; exact H
         clear H
         have H := H1
         clear H1
         have H' := Aside0.mk H
         clear H
         obtain ⟨Ao51, co51, eo51⟩ := Kd.R_slice HO_7.out
         subst eo51
         obtain ⟨Ao52, co52, eo52⟩ := Kd.R_slice HO_4.out
         subst eo52
         go_wp2_with (first | (go_at_call 12; (with_reducible refine (laws_eqIntS.calls kj10 _ _ t657 _ _ t646 true _ ?side1 ?side2 ?side3 ?side4 A49.out).mono ?_); (case side1 => exact cP (Kd.R_reads' HO_7.out).2.2); (case side2 => exact (Kd.R_reads' HO_7.out).2.1); (case side3 => exact cP (Kd.R_reads' HO_4.out).2.2); (case side4 => exact (Kd.R_reads' HO_4.out).2.1); rintro e w' ⟨rfl, ⟨nd, rfl⟩⟩))
         go_meet
         case rel => exact ⟨_, ((t660 != t649)), eS, H', ⟨by have := HJ10.out; first | omega | exact Nat.le_refl _⟩, ⟨by (with_reducible repeat (first | apply Kd.R_alloc | apply Kd.R_drewN | apply Kd.R_drew)); exact Kd.R_mono HO_4.out (fun _ hk => ⟨hk.1, ⟨hk.2.1, hk.2.2.1⟩⟩)⟩, ⟨by (with_reducible repeat (first | apply Kd.R_alloc | apply Kd.R_drewN | apply Kd.R_drew)); exact Kd.R_mono HO_7.out (fun _ hk => ⟨hk.1, ⟨hk.2.1, hk.2.2.1⟩⟩)⟩, ⟨by (with_reducible repeat (first | apply Kd.R_alloc | apply Kd.R_drewN | apply Kd.R_drew)); exact Kd.R_mono HO_657000.out (fun _ hk => ⟨hk.1.1.1, ⟨hk.1.1.2.1, hk.1.1.2.2⟩⟩)⟩, ⟨by (with_reducible repeat (first | apply Kd.R_alloc | apply Kd.R_drewN | apply Kd.R_drew)); exact Kd.R_mono HO_657001.out (fun _ hk => ⟨hk.1.1.1, ⟨hk.1.1.2.1, hk.1.1.2.2⟩⟩)⟩, ⟨kP BK638⟩, ⟨kP BK656⟩, ⟨bP HB⟩⟩
        ·replace c50 := Bool.eq_false_iff.mpr c50
         subst c50
         have H1 : (laws_FnExactMapDegrees.j1 kj10 t646 t649 t657 true l0_0 l0_1) = some r := by rw [if_neg (show ¬ (false = true) by decide)] at H; exact H
         clear H
         have H := H1
         clear H1
         have H' := Aside0.mk H
         clear H
         obtain ⟨Ao53, co53, eo53⟩ := Kd.R_slice HO_7.out
         subst eo53
         obtain ⟨Ao54, co54, eo54⟩ := Kd.R_slice HO_4.out
         subst eo54
         go_wp2_with (first | (go_at_call 12; (with_reducible refine (laws_eqIntS.calls kj10 _ _ t657 _ _ t646 false _ ?side1 ?side2 ?side3 ?side4 A49.out).mono ?_); (case side1 => exact cP (Kd.R_reads' HO_7.out).2.2); (case side2 => exact (Kd.R_reads' HO_7.out).2.1); (case side3 => exact cP (Kd.R_reads' HO_4.out).2.2); (case side4 => exact (Kd.R_reads' HO_4.out).2.1); rintro e w' ⟨rfl, ⟨nd, rfl⟩⟩))
         go_meet
         case rel => exact ⟨_, (true), eS, H', ⟨by have := HJ10.out; first | omega | exact Nat.le_refl _⟩, ⟨by (with_reducible repeat (first | apply Kd.R_alloc | apply Kd.R_drewN | apply Kd.R_drew)); exact Kd.R_mono HO_4.out (fun _ hk => ⟨hk.1, ⟨hk.2.1, hk.2.2.1⟩⟩)⟩, ⟨by (with_reducible repeat (first | apply Kd.R_alloc | apply Kd.R_drewN | apply Kd.R_drew)); exact Kd.R_mono HO_7.out (fun _ hk => ⟨hk.1, ⟨hk.2.1, hk.2.2.1⟩⟩)⟩, ⟨by (with_reducible repeat (first | apply Kd.R_alloc | apply Kd.R_drewN | apply Kd.R_drew)); exact Kd.R_mono HO_657000.out (fun _ hk => ⟨hk.1.1.1, ⟨hk.1.1.2.1, hk.1.1.2.2⟩⟩)⟩, ⟨by (with_reducible repeat (first | apply Kd.R_alloc | apply Kd.R_drewN | apply Kd.R_drew)); exact Kd.R_mono HO_657001.out (fun _ hk => ⟨hk.1.1.1, ⟨hk.1.1.2.1, hk.1.1.2.2⟩⟩)⟩, ⟨kP BK638⟩, ⟨kP BK656⟩, ⟨bP HB⟩⟩
      case rest =>
       clear HC39
       try clear c1
       try clear c2
       try clear p2
       try clear c3
       try clear c3b0
       try clear c4
       try clear c5
       try clear c6
       try clear c12
       try clear c24
       try clear c25
       try clear c26
       try clear c27
       try clear c28
       try clear c29
       try clear c30
       try clear c34
       try clear c37
       try clear c45
       try clear c48
       try clear c48b0
       try clear c50
       try clear hcz13_0
       try clear hcz13_1
       try clear hcz15_0
       try clear hcz15_1
       try clear hcz20_0
       try clear hcz20_1
       try clear hcz25_0
       try clear hcz25_1
       try clear hcz46_0
       try clear hcz46_1
       try clear hcz5_0
       try clear hcz5_1
       try clear hfz13_0
       try clear hfz13_1
       try clear hfz15_0
       try clear hfz15_1
       try clear hfz20_0
       try clear hfz20_1
       try clear hfz25_0
       try clear hfz25_1
       try clear hfz46_0
       try clear hfz46_1
       try clear hfz5_0
       try clear hfz5_1
       try clear p2
       obtain ⟨kq, x61_38, rfl, HA, HJ38, HO_4, HO_7, HO_657000, HO_657001, BK638, BK656, HB⟩ := hcut
       have hl657000_38 := (Kd.R_reads' HO_657000.out).1
       rw [hl657000_38] at HO_657000
       (try simp only [hl657000_38])
       (try simp only [hl657000_38] at BK638)
       (try simp only [hl657000_38] at BK656)
       (try simp only [hl657000_38] at HO_4)
       (try simp only [hl657000_38] at HO_7)
       (try simp only [hl657000_38] at HO_657001)
       have hl657001_38 := (Kd.R_reads' HO_657001.out).1
       rw [hl657001_38] at HO_657001
       (try simp only [hl657001_38])
       (try simp only [hl657001_38] at BK638)
       (try simp only [hl657001_38] at BK656)
       (try simp only [hl657001_38] at HO_4)
       (try simp only [hl657001_38] at HO_7)
       (try simp only [hl657001_38] at HO_657000)
       cases kq with
       | zero => exact absurd HA.out (by simp [laws_FnExactMapDegrees.j1])
       | succ kj38 =>
        have H := HA.out
        clear HA
        simp only [laws_FnExactMapDegrees.j1] at H
        by_cases c55 : x61_38 = true
        ·subst c55
         have H1 : (some false) = some r := by rw [if_pos rfl] at H; exact H
         clear H
         have H := H1
         clear H1
         exact absurd ((Option.some.inj H).trans hr_.out) (by decide)
        ·replace c55 := Bool.eq_false_iff.mpr c55
         subst c55
         have H1 : ((laws_markIntS.f kj38 t657 1).bind fun bt673 => ((laws_heldIntS.f kj38 bt673.2 1).bind fun t675 => (if t675 < 0 then (some false) else (if t675 = bt673.1 then ((laws_toMap.f kj38 l0_0 l0_1).bind fun bt676 => ((impl_MapDegrees.f kj38 bt676.1 bt676.2).bind fun bt682 => ((laws_eqIntS.f kj38 bt682.1 t646).bind fun t686 => (if t686 = true then (laws_FnExactMapDegrees.j2 kj38 bt673.2 bt673.1 (bt682.2 != t649)) else (laws_FnExactMapDegrees.j2 kj38 bt673.2 bt673.1 true))))) else (some false))))) = some r := by rw [if_neg (show ¬ (false = true) by decide)] at H; exact H
         clear H
         have H := H1
         clear H1
         replace H := Option.bind_eq_some_iff.mp H
         obtain ⟨⟨t673, t674⟩, A560, H⟩ := H
         replace H : ((laws_heldIntS.f kj38 t674 1).bind fun t675 => (if t675 < 0 then (some false) else (if t675 = t673 then ((laws_toMap.f kj38 l0_0 l0_1).bind fun bt676 => ((impl_MapDegrees.f kj38 bt676.1 bt676.2).bind fun bt682 => ((laws_eqIntS.f kj38 bt682.1 t646).bind fun t686 => (if t686 = true then (laws_FnExactMapDegrees.j2 kj38 t674 t673 (bt682.2 != t649)) else (laws_FnExactMapDegrees.j2 kj38 t674 t673 true))))) else (some false)))) = some r := H
         have A56 := Aside0.mk A560
         clear A560
         replace H := Option.bind_eq_some_iff.mp H
         obtain ⟨t675, A570, H⟩ := H
         replace H : (if t675 < 0 then (some false) else (if t675 = t673 then ((laws_toMap.f kj38 l0_0 l0_1).bind fun bt676 => ((impl_MapDegrees.f kj38 bt676.1 bt676.2).bind fun bt682 => ((laws_eqIntS.f kj38 bt682.1 t646).bind fun t686 => (if t686 = true then (laws_FnExactMapDegrees.j2 kj38 t674 t673 (bt682.2 != t649)) else (laws_FnExactMapDegrees.j2 kj38 t674 t673 true))))) else (some false))) = some r := H
         have A57 := Aside0.mk A570
         clear A570
         by_cases c58 : t675 < 0
         ·rw [if_pos c58] at H
          have c58b0 : decide (t675 < 0) = true := decide_eq_true c58
          clear c58
          exact absurd ((Option.some.inj H).trans hr_.out) (by decide)
         ·rw [if_neg c58] at H
          have c58b0 : decide (t675 < 0) = false := decide_eq_false c58
          clear c58
          by_cases c59 : t675 = t673
          ·rw [if_pos c59] at H
           have c59b0 : (t675 == t673) = true := beq_iff_eq.mpr c59
           have c59b1 : (t675 != t673) = false := bne_eq_false_iff_eq.mpr c59
           clear c59
           replace H := Option.bind_eq_some_iff.mp H
           obtain ⟨⟨t676, t679⟩, A600, H⟩ := H
           replace H : ((impl_MapDegrees.f kj38 t676 t679).bind fun bt682 => ((laws_eqIntS.f kj38 bt682.1 t646).bind fun t686 => (if t686 = true then (laws_FnExactMapDegrees.j2 kj38 t674 t673 (bt682.2 != t649)) else (laws_FnExactMapDegrees.j2 kj38 t674 t673 true)))) = some r := H
           have A60 := Aside0.mk A600
           clear A600
           replace H := Option.bind_eq_some_iff.mp H
           obtain ⟨⟨t682, t685⟩, A610, H⟩ := H
           replace H : ((laws_eqIntS.f kj38 t682 t646).bind fun t686 => (if t686 = true then (laws_FnExactMapDegrees.j2 kj38 t674 t673 (t685 != t649)) else (laws_FnExactMapDegrees.j2 kj38 t674 t673 true))) = some r := H
           have A61 := Aside0.mk A610
           clear A610
           have HC62 := Aside0.mk H
           clear H
           obtain ⟨Ao63, co63, eo63⟩ := Kd.R_slice HO_7.out
           subst eo63
           go_upto_region 25 with (first | ((with_reducible refine gate_callee (f := 13) rfl ?_); refine gL (some 64) Try.func13 #[.slice Ao63 t657.length co63, .int .i64 1] ?_; (with_reducible refine (laws_markIntS.calls kj38 (fun k_ => some k_ = (.slice Ao63 t657.length co63 : Value).ownBlock) (.slice Ao63 t657.length co63) t657 1 t673 t674 w _ ?side1 ?side2 A56.out).mono ?_); (case side1 => exact bP HB); (case side2 => exact Kd.R_tight rfl HO_7.out); rintro e w64 ⟨rfl, hy0, hb, hkp⟩; refine ⟨_, rfl, ?_⟩; replace HO_4 := Aside0.mk (Kd.R_mono (ok' := fun k_ => some k_ ≠ (.slice Ao63 t657.length co63 : Value).ownBlock ∧ some k_ ≠ (.slice Ao23 t670.length co23 : Value).ownBlock ∧ some k_ ≠ (.slice Ao26 t671.length co26 : Value).ownBlock) (Kd.R_keptB (HO_4.out) hkp (fun k_ hk_ hs_ => (hk_.1) hs_)) (fun k_ hk_ => ⟨hk_.1.1, hk_.1.2.1, hk_.1.2.2⟩)); replace HO_657000 := Aside0.mk (Kd.R_mono (ok' := fun k_ => some k_ ≠ (v647 : Value).ownBlock ∧ some k_ ≠ (.slice Ao63 t657.length co63 : Value).ownBlock ∧ some k_ ≠ (.slice Ao26 t671.length co26 : Value).ownBlock) (Kd.R_keptB (HO_657000.out) hkp (fun k_ hk_ hs_ => (hk_.2.1) hs_)) (fun k_ hk_ => ⟨hk_.1.1, hk_.1.2.1, hk_.1.2.2⟩)); replace HO_657001 := Aside0.mk (Kd.R_mono (ok' := fun k_ => some k_ ≠ (v647 : Value).ownBlock ∧ some k_ ≠ (.slice Ao63 t657.length co63 : Value).ownBlock ∧ some k_ ≠ (.slice Ao23 t670.length co23 : Value).ownBlock) (Kd.R_keptB (HO_657001.out) hkp (fun k_ hk_ hs_ => (hk_.2.1) hs_)) (fun k_ hk_ => ⟨hk_.1.1, hk_.1.2.1, hk_.1.2.2⟩)); replace BK638 := Aside0.mk (blk_kept (kP BK638) hkp (fun hs_ => (fun e_ => (Kd.R_ne HO_7.out BK638.out (by decide)) e_) hs_)); replace BK656 := Aside0.mk (blk_kept (kP BK656) hkp (fun hs_ => (fun e_ => (Kd.R_ne HO_7.out BK656.out (by decide)) e_) hs_)); replace HO_7 := Aside0.mk (Kd.R_reok rfl hy0 (fun k_ e_ => HO_7.out.1 k_ e_)); replace HB := Aside0.mk (hb); (try clear hb); (try clear hkp); (try clear hy0)) | ((with_reducible refine gate_callee (f := 14) rfl ?_); refine goesL_ (some 67) rfl rfl Try.func14 (by kernel_rfl) rfl #[.slice Ao63 t674.length co63, .int .i64 1] rfl (by (try simp only [List.map_toArray, List.map_cons, List.map_nil]); first | done | (rw [show t674.length = t657.length from (Kd.R_reads' HO_7.out).1.symm] <;> rfl) | rfl | (simp only [List.length_drop, List.length_take]; rfl)) ?_; (with_reducible refine (laws_heldIntS.calls kj38 _ _ t674 1 t675 _ ?side1 ?side2 A57.out).mono ?_); (case side1 => exact cP (Kd.R_reads' HO_7.out).2.2); (case side2 => rw [show t674.length = t657.length from (Kd.R_reads' HO_7.out).1.symm]; exact (Kd.R_reads' HO_7.out).2.1); rintro e w' ⟨rfl, ⟨nd, rfl⟩⟩; refine ⟨_, rfl, ?_⟩; have hnb65 := NB638_656.out; have hnc65 := NB656_638.out; have hcz66_0 := zc0 BK638; have hcz66_1 := zc1 BK638; have hfz66_0 := blk_frozen BK638.out 0; have hfz66_1 := blk_frozen BK638.out 1) | ((with_reducible refine gate_callee (f := 27) rfl ?_); refine gL (some 75) Try.func27 #[.agg #[.slice A0_0 l0_0.length c0_0, .slice A0_1 l0_1.length c0_1]] ?_; (with_reducible refine (laws_toMap.calls kj38 _ _ l0_0 _ _ l0_1 t676 t679 _ ?side1 ?side2 ?side3 ?side4 A60.out).mono ?_); (case side1 => exact cP (Kd.C_below HR0_0.out (bP HB))); (case side2 => exact HC0_0.out); (case side3 => exact cP (Kd.C_below HR0_1.out (bP HB))); (case side4 => exact HC0_1.out); rintro e w67 ⟨v677, v680, rfl, ho0, ho1, hb⟩; refine ⟨_, rfl, ?_⟩; have HO678 := Aside0.mk (Kd.R_lower (Kd.R_new' (Kd.R_new' (Kd.R_new' (Kd.R_new' ho0 (Kd.R_lt (rP HO_4))) (Kd.R_lt (rP HO_7))) (Kd.R_lt (rP HO_657000))) (Kd.R_lt (rP HO_657001))) (below_size (bP HB))); have HO681 := Aside0.mk (Kd.R_lower (Kd.R_new' (Kd.R_new' (Kd.R_new' (Kd.R_new' ho1 (Kd.R_lt (rP HO_4))) (Kd.R_lt (rP HO_7))) (Kd.R_lt (rP HO_657000))) (Kd.R_lt (rP HO_657001))) (below_size (bP HB))); replace HO_4 := Aside0.mk (Kd.R_mono (Kd.R_told (Kd.R_told (Kd.R_old (rP HO_4) hb) (Kd.R_base ho0)) (Kd.R_base ho1)) (fun _ h_ => h_.1)); replace HO_7 := Aside0.mk (Kd.R_mono (Kd.R_told (Kd.R_told (Kd.R_old (rP HO_7) hb) (Kd.R_base ho0)) (Kd.R_base ho1)) (fun _ h_ => h_.1)); replace HO_657000 := Aside0.mk (Kd.R_mono (Kd.R_told (Kd.R_told (Kd.R_old (rP HO_657000) hb) (Kd.R_base ho0)) (Kd.R_base ho1)) (fun _ h_ => h_.1)); replace HO_657001 := Aside0.mk (Kd.R_mono (Kd.R_told (Kd.R_told (Kd.R_old (rP HO_657001) hb) (Kd.R_base ho0)) (Kd.R_base ho1)) (fun _ h_ => h_.1)); replace BK638 := kB BK638 hb; replace BK656 := kB BK656 hb; replace HB := bS HB hb; (try clear hb); (try clear hb2); (try clear hk); (try clear hi); (try clear ho0); (try clear ho1); obtain ⟨Ao68, co68, eo68⟩ := Kd.R_slice HO678.out; subst eo68; obtain ⟨Ao69, co69, eo69⟩ := Kd.R_slice HO681.out; subst eo69) | ((with_reducible refine gate_callee (f := 28) rfl ?_); refine gL (some 76) Try.func28 #[.agg #[.slice Ao68 t676.length co68, .slice Ao69 t679.length co69]] ?_; (with_reducible refine (impl_MapDegrees.calls kj38 _ _ t676 _ _ t679 t682 t685 _ ?side1 ?side2 ?side3 ?side4 A61.out).mono ?_); (case side1 => exact cP (Kd.R_reads' HO678.out).2.2); (case side2 => exact (Kd.R_reads' HO678.out).2.1); (case side3 => exact cP (Kd.R_reads' HO681.out).2.2); (case side4 => exact (Kd.R_reads' HO681.out).2.1); rintro e w70 ⟨v683, rfl, ho0, hb⟩; refine ⟨_, rfl, ?_⟩; have HO684 := Aside0.mk (Kd.R_lower (Kd.R_new' (Kd.R_new' (Kd.R_new' (Kd.R_new' (Kd.R_new' (Kd.R_new' ho0 (Kd.R_lt (rP HO_4))) (Kd.R_lt (rP HO_7))) (Kd.R_lt (rP HO_657000))) (Kd.R_lt (rP HO_657001))) (Kd.R_lt (rP HO678))) (Kd.R_lt (rP HO681))) (below_size (bP HB))); replace HO_4 := Aside0.mk (Kd.R_elder' (rP HO_4) (Kd.R_base ho0) hb); replace HO_7 := Aside0.mk (Kd.R_elder' (rP HO_7) (Kd.R_base ho0) hb); replace HO_657000 := Aside0.mk (Kd.R_elder' (rP HO_657000) (Kd.R_base ho0) hb); replace HO_657001 := Aside0.mk (Kd.R_elder' (rP HO_657001) (Kd.R_base ho0) hb); replace HO678 := Aside0.mk (Kd.R_elder' (rP HO678) (Kd.R_base ho0) hb); replace HO681 := Aside0.mk (Kd.R_elder' (rP HO681) (Kd.R_base ho0) hb); replace BK638 := kB BK638 hb; replace BK656 := kB BK656 hb; replace HB := bS HB hb; (try clear hb); (try clear hb2); (try clear hk); (try clear hi); (try clear ho0)))
           (try simp only [Act.put, List.setIfInBounds_toArray, List.set_cons_zero, List.set_cons_succ])
           go_cut [87] (fun v87 wc => ∃ (kq : Nat) (x87_61 : Bool), v87 = .bool x87_61 ∧ Aside0 (laws_FnExactMapDegrees.j2 kq t674 t673 x87_61 = some r) ∧ Aside0 (kq ≤ kj38) ∧ Aside0 (Kd.R (Kd.int .i64) 3 wc w.heap.size (fun k_ => some k_ ≠ ((.slice Ao23 t670.length co23) : Value).ownBlock ∧ some k_ ≠ ((.slice Ao26 t671.length co26) : Value).ownBlock) (.slice Ao63 t657.length co63) t674) ∧ Aside0 (Kd.R (Kd.int .i64) 3 wc w.heap.size (fun k_ => some k_ ≠ ((.slice Ao63 t657.length co63) : Value).ownBlock ∧ some k_ ≠ ((.slice Ao26 t671.length co26) : Value).ownBlock) (.slice Ao23 t670.length co23) t670) ∧ Aside0 (Kd.R (Kd.int .i64) 3 wc w.heap.size (fun k_ => some k_ ≠ ((.slice Ao63 t657.length co63) : Value).ownBlock ∧ some k_ ≠ ((.slice Ao23 t670.length co23) : Value).ownBlock) (.slice Ao26 t671.length co26) t671) ∧ Aside0 (wc.heap[gb638]? = some (.cells #[(.slice A0_0 l0_0.length c0_0), (.slice A0_1 l0_1.length c0_1)] 37 (0, 0))) ∧ Aside0 (wc.heap[gb656]? = some (.cells #[(.slice Ao23 t670.length co23), (.slice Ao26 t671.length co26)] 40 (0, 0))) ∧ Aside0 (Below w.heap.size w wc))
           case first =>
            have H := HC62.out
            clear HC62
            replace H := Option.bind_eq_some_iff.mp H
            obtain ⟨t686, A710, H⟩ := H
            replace H : (if t686 = true then (laws_FnExactMapDegrees.j2 kj38 t674 t673 (t685 != t649)) else (laws_FnExactMapDegrees.j2 kj38 t674 t673 true)) = some r := H
            have A71 := Aside0.mk A710
            clear A710
            by_cases c72 : t686 = true
            ·subst c72
             have H1 : (laws_FnExactMapDegrees.j2 kj38 t674 t673 (t685 != t649)) = some r := by rw [if_pos rfl] at H; exact H
             clear H
             have H := H1
             clear H1
             have H' := Aside0.mk H
             clear H
             obtain ⟨Ao73, co73, eo73⟩ := Kd.R_slice HO684.out
             subst eo73
             obtain ⟨Ao74, co74, eo74⟩ := Kd.R_slice HO_4.out
             subst eo74
             go_wp2_with (first | ((with_reducible refine gate_callee (f := 12) rfl ?_); refine gL (some 81) Try.func12 #[.slice Ao73 t682.length co73, .slice Ao74 t646.length co74] ?_; (with_reducible refine (laws_eqIntS.calls kj38 _ _ t682 _ _ t646 true _ ?side1 ?side2 ?side3 ?side4 A71.out).mono ?_); (case side1 => exact cP (Kd.R_reads' HO684.out).2.2); (case side2 => exact (Kd.R_reads' HO684.out).2.1); (case side3 => exact cP (Kd.R_reads' HO_4.out).2.2); (case side4 => exact (Kd.R_reads' HO_4.out).2.1); rintro e w' ⟨rfl, ⟨nd, rfl⟩⟩; refine ⟨_, rfl, ?_⟩))
             go_meet
             case rel => exact ⟨_, ((t685 != t649)), eS, H', ⟨by have := HJ10.out; have := HJ38.out; first | omega | exact Nat.le_refl _⟩, ⟨by (try simp only [hl657000_38]); (try simp only [hl657001_38]); (with_reducible repeat (first | apply Kd.R_alloc | apply Kd.R_drewN | apply Kd.R_drew)); exact Kd.R_mono HO_7.out (fun _ hk => ⟨hk.1.1.1.2.1, hk.1.1.1.2.2⟩)⟩, ⟨by (try simp only [hl657000_38]); (try simp only [hl657001_38]); (with_reducible repeat (first | apply Kd.R_alloc | apply Kd.R_drewN | apply Kd.R_drew)); exact Kd.R_mono HO_657000.out (fun _ hk => ⟨hk.1.1.1.2.1, hk.1.1.1.2.2⟩)⟩, ⟨by (try simp only [hl657000_38]); (try simp only [hl657001_38]); (with_reducible repeat (first | apply Kd.R_alloc | apply Kd.R_drewN | apply Kd.R_drew)); exact Kd.R_mono HO_657001.out (fun _ hk => ⟨hk.1.1.1.2.1, hk.1.1.1.2.2⟩)⟩, ⟨by (try simp only [hl657000_38]); (try simp only [hl657001_38]); (with_reducible repeat (first | refine blk_drewN ?_ _ | refine blk_drew ?_ | refine blk_alloc ?_ _)); exact BK638.out⟩, ⟨by (try simp only [hl657000_38]); (try simp only [hl657001_38]); (with_reducible repeat (first | refine blk_drewN ?_ _ | refine blk_drew ?_ | refine blk_alloc ?_ _)); exact BK656.out⟩, ⟨bP HB⟩⟩
            ·replace c72 := Bool.eq_false_iff.mpr c72
             subst c72
             have H1 : (laws_FnExactMapDegrees.j2 kj38 t674 t673 true) = some r := by rw [if_neg (show ¬ (false = true) by decide)] at H; exact H
             clear H
             have H := H1
             clear H1
             have H' := Aside0.mk H
             clear H
             obtain ⟨Ao75, co75, eo75⟩ := Kd.R_slice HO684.out
             subst eo75
             obtain ⟨Ao76, co76, eo76⟩ := Kd.R_slice HO_4.out
             subst eo76
             go_wp2_with (first | ((with_reducible refine gate_callee (f := 12) rfl ?_); refine gL (some 81) Try.func12 #[.slice Ao75 t682.length co75, .slice Ao76 t646.length co76] ?_; (with_reducible refine (laws_eqIntS.calls kj38 _ _ t682 _ _ t646 false _ ?side1 ?side2 ?side3 ?side4 A71.out).mono ?_); (case side1 => exact cP (Kd.R_reads' HO684.out).2.2); (case side2 => exact (Kd.R_reads' HO684.out).2.1); (case side3 => exact cP (Kd.R_reads' HO_4.out).2.2); (case side4 => exact (Kd.R_reads' HO_4.out).2.1); rintro e w' ⟨rfl, ⟨nd, rfl⟩⟩; refine ⟨_, rfl, ?_⟩))
             go_meet
             case rel => exact ⟨_, (true), eS, H', ⟨by have := HJ10.out; have := HJ38.out; first | omega | exact Nat.le_refl _⟩, ⟨by (try simp only [hl657000_38]); (try simp only [hl657001_38]); (with_reducible repeat (first | apply Kd.R_alloc | apply Kd.R_drewN | apply Kd.R_drew)); exact Kd.R_mono HO_7.out (fun _ hk => ⟨hk.1.1.1.2.1, hk.1.1.1.2.2⟩)⟩, ⟨by (try simp only [hl657000_38]); (try simp only [hl657001_38]); (with_reducible repeat (first | apply Kd.R_alloc | apply Kd.R_drewN | apply Kd.R_drew)); exact Kd.R_mono HO_657000.out (fun _ hk => ⟨hk.1.1.1.2.1, hk.1.1.1.2.2⟩)⟩, ⟨by (try simp only [hl657000_38]); (try simp only [hl657001_38]); (with_reducible repeat (first | apply Kd.R_alloc | apply Kd.R_drewN | apply Kd.R_drew)); exact Kd.R_mono HO_657001.out (fun _ hk => ⟨hk.1.1.1.2.1, hk.1.1.1.2.2⟩)⟩, ⟨by (try simp only [hl657000_38]); (try simp only [hl657001_38]); (with_reducible repeat (first | refine blk_drewN ?_ _ | refine blk_drew ?_ | refine blk_alloc ?_ _)); exact BK638.out⟩, ⟨by (try simp only [hl657000_38]); (try simp only [hl657001_38]); (with_reducible repeat (first | refine blk_drewN ?_ _ | refine blk_drew ?_ | refine blk_alloc ?_ _)); exact BK656.out⟩, ⟨bP HB⟩⟩
           case rest =>
            clear HC62
            try clear c1
            try clear c2
            try clear p2
            try clear c3
            try clear c3b0
            try clear c4
            try clear c5
            try clear c6
            try clear c7
            try clear c12
            try clear c13
            try clear c14
            try clear c24
            try clear c25
            try clear c26
            try clear c27
            try clear c28
            try clear c29
            try clear c30
            try clear c34
            try clear c37
            try clear c45
            try clear c48
            try clear c48b0
            try clear c50
            try clear c55
            try clear c58
            try clear c58b0
            try clear c59
            try clear c59b0
            try clear c59b1
            try clear c65
            try clear c72
            try clear hcz13_0
            try clear hcz13_1
            try clear hcz15_0
            try clear hcz15_1
            try clear hcz20_0
            try clear hcz20_1
            try clear hcz25_0
            try clear hcz25_1
            try clear hcz46_0
            try clear hcz46_1
            try clear hcz5_0
            try clear hcz5_1
            try clear hcz66_0
            try clear hcz66_1
            try clear hfz13_0
            try clear hfz13_1
            try clear hfz15_0
            try clear hfz15_1
            try clear hfz20_0
            try clear hfz20_1
            try clear hfz25_0
            try clear hfz25_1
            try clear hfz46_0
            try clear hfz46_1
            try clear hfz5_0
            try clear hfz5_1
            try clear hfz66_0
            try clear hfz66_1
            try clear p2
            obtain ⟨kq, x87_61, rfl, HA, HJ61, HO_7, HO_657000, HO_657001, BK638, BK656, HB⟩ := hcut
            have hl7_61 := (Kd.R_reads' HO_7.out).1
            rw [hl7_61] at HO_7
            (try simp only [hl7_61])
            (try simp only [hl7_61] at BK638)
            (try simp only [hl7_61] at BK656)
            (try simp only [hl7_61] at HO_657000)
            (try simp only [hl7_61] at HO_657001)
            cases kq with
            | zero => exact absurd HA.out (by simp [laws_FnExactMapDegrees.j2])
            | succ kj61 =>
             have H := HA.out
             clear HA
             simp only [laws_FnExactMapDegrees.j2] at H
             by_cases c77 : x87_61 = true
             ·subst c77
              have H1 : (some false) = some r := by rw [if_pos rfl] at H; exact H
              clear H
              have H := H1
              clear H1
              exact absurd ((Option.some.inj H).trans hr_.out) (by decide)
             ·replace c77 := Bool.eq_false_iff.mpr c77
              subst c77
              have H1 : ((laws_heldIntS.f kj61 t674 1).bind fun t687 => (if t687 < 0 then (some false) else (if t687 = t673 then (some true) else (some false)))) = some r := by rw [if_neg (show ¬ (false = true) by decide)] at H; exact H
              clear H
              have H := H1
              clear H1
              replace H := Option.bind_eq_some_iff.mp H
              obtain ⟨t687, A780, H⟩ := H
              replace H : (if t687 < 0 then (some false) else (if t687 = t673 then (some true) else (some false))) = some r := H
              have A78 := Aside0.mk A780
              clear A780
              by_cases c79 : t687 < 0
              ·rw [if_pos c79] at H
               have c79b0 : decide (t687 < 0) = true := decide_eq_true c79
               clear c79
               exact absurd ((Option.some.inj H).trans hr_.out) (by decide)
              ·rw [if_neg c79] at H
               have c79b0 : decide (t687 < 0) = false := decide_eq_false c79
               clear c79
               by_cases c80 : t687 = t673
               ·rw [if_pos c80] at H
                have c80b0 : (t687 == t673) = true := beq_iff_eq.mpr c80
                have c80b1 : (t687 != t673) = false := bne_eq_false_iff_eq.mpr c80
                clear c80
                obtain rfl := Option.some.inj H
                go_wp2_with (first | ((with_reducible refine gate_callee (f := 14) rfl ?_); refine gL (some 90) Try.func14 #[.slice Ao63 t674.length co63, .int .i64 1] ?_; (with_reducible refine (laws_heldIntS.calls kj61 _ _ t674 1 t687 _ ?side1 ?side2 A78.out).mono ?_); (case side1 => exact cP (Kd.R_reads' HO_7.out).2.2); (case side2 => exact (Kd.R_reads' HO_7.out).2.1); rintro e w' ⟨rfl, ⟨nd, rfl⟩⟩; refine ⟨_, rfl, ?_⟩))
                go_ret
                exact ⟨eR, bP HB⟩
               ·rw [if_neg c80] at H
                have c80b0 : (t687 == t673) = false := beq_eq_false_iff_ne.mpr c80
                have c80b1 : (t687 != t673) = true := bne_iff_ne.mpr c80
                exact absurd ((Option.some.inj H).trans hr_.out) (by decide)
          ·rw [if_neg c59] at H
           have c59b0 : (t675 == t673) = false := beq_eq_false_iff_ne.mpr c59
           have c59b1 : (t675 != t673) = true := bne_iff_ne.mpr c59
           exact absurd ((Option.some.inj H).trans hr_.out) (by decide)
     ·replace c37 := Bool.eq_false_iff.mpr c37
      subst c37
      have H1 : (some false) = some r := by rw [if_neg (show ¬ (false = true) by decide)] at H; exact H
      clear H
      have H := H1
      clear H1
      exact absurd ((Option.some.inj H).trans hr_.out) (by decide)

end Go.Proofs.Yteffimfifgnleaa.F
