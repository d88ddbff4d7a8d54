/- Contracts: what these Go functions return. -/
import Derived.Test.YtajmkjeiegdpcaaF0
import Derived.Test.YtajmkjeiegdpcaaF14
import Derived.Test.YtajmkjeiegdpcaaF19
import Derived.Test.YtajmkjeiegdpcaaF23
import Derived.Test.YtajmkjeiegdpcaaF28
import Derived.Test.YtajmkjeiegdpcaaF33
import Derived.Test.YtajmkjeiegdpcaaF38
namespace Go.Proofs.Ytajmkjeiegdpcaa.F
open Go.RowKit Go.Proofs.YtajmkjeiegdpcaaW.PrintWords Go.Proofs.YtajmkjeiegdpcaaW.PrintLast Go.Proofs.YtajmkjeiegdpcaaW.PrintMore
attribute [local go_sem] max2_int min2_int max_two min_two max_three min_three max_four min_four
set_option linter.unusedVariables false
set_option linter.unusedSimpArgs false

/-! ### laws_FnExactMapLeast: function 7 -/
mutual
def laws_FnExactMapLeast.j0 : Nat → Bool → Bool → Bool → List Int → List Int → List Int → List Int → List Int → List Int → List Int → List Int → Option (Bool)
 | 0, _, _, _, _, _, _, _, _, _, _, _ => none
 | k + 1, x5, x8, x40, x706000, x706001, x721000, x721001, x728000, x728001, x736000, x736001 => if x40 = true then (some false) else ((laws_toMap.f k x706000 x706001).bind fun bt737 => ((laws_eqMap.f k x728000 x728001 bt737.1 bt737.2).bind fun t743 => (if t743 = true then ((laws_markMap.f k x728000 x728001 1).bind fun bt744 => (if bt744.1 < 0 then (laws_FnExactMapLeast.j1 k x5 true x706000 x706001 x721000 x721001 x736000 x736001) else ((laws_eqMap.f k x736000 x736001 x721000 x721001).bind fun t747 => (if t747 = true then (laws_FnExactMapLeast.j1 k x5 (x8 != x5) x706000 x706001 x721000 x721001 x736000 x736001) else (laws_FnExactMapLeast.j1 k x5 true x706000 x706001 x721000 x721001 x736000 x736001))))) else (some false))))
def laws_FnExactMapLeast.j1 : Nat → Bool → Bool → List Int → List Int → List Int → List Int → List Int → List Int → Option (Bool)
 | 0, _, _, _, _, _, _, _, _ => none
 | k + 1, x5, x61, x706000, x706001, x721000, x721001, x736000, x736001 => if x61 = true then (some false) else ((laws_markMap.f k x736000 x736001 1).bind fun bt748 => ((laws_heldMap.f k bt748.2.1 bt748.2.2 1).bind fun t751 => (if t751 < 0 then (some false) else (if t751 = bt748.1 then ((laws_toMap.f k x706000 x706001).bind fun bt752 => ((impl_MapLeast.f k bt752.1 bt752.2).bind fun bt758 => ((laws_eqMap.f k bt758.1 bt758.2.1 x721000 x721001).bind fun t766 => (if t766 = true then (laws_FnExactMapLeast.j2 k bt748.1 (bt758.2.2 != x5) bt748.2.1 bt748.2.2) else (laws_FnExactMapLeast.j2 k bt748.1 true bt748.2.1 bt748.2.2))))) else (some false)))))
def laws_FnExactMapLeast.j2 : Nat → Int → Bool → List Int → List Int → Option (Bool)
 | 0, _, _, _, _ => none
 | k + 1, x10, x87, x736000, x736001 => if x87 = true then (some false) else ((laws_heldMap.f k x736000 x736001 1).bind fun t767 => (if t767 < 0 then (some false) else (if t767 = x10 then (some true) else (some false))))
end
def laws_FnExactMapLeast.f (k : Nat) (l0_0 : List Int) (l0_1 : List Int) : Option (Bool) := (laws_szMap.f l0_0 l0_1 1048576).bind fun t706 => (if t706 < 0 then (some true) else ((laws_toMap.f k l0_0 l0_1).bind fun bt707 => ((spec_MapLeast.f k bt707.1 bt707.2).bind fun bt713 => ((laws_toMap.f k l0_0 l0_1).bind fun bt721 => ((impl_MapLeast.f k bt721.1 bt721.2).bind fun bt728 => ((laws_eqMap.f k bt728.1 bt728.2.1 bt713.1 bt713.2.1).bind fun t736 => (if t736 = true then (laws_FnExactMapLeast.j0 k bt713.2.2 bt728.2.2 (bt728.2.2 != bt713.2.2) l0_0 l0_1 bt713.1 bt713.2.1 bt721.1 bt721.2 bt728.1 bt728.2.1) else (laws_FnExactMapLeast.j0 k bt713.2.2 bt728.2.2 true l0_0 l0_1 bt713.1 bt713.2.1 bt721.1 bt721.2 bt728.1 bt728.2.1))))))))
theorem laws_FnExactMapLeast.mono_l : ∀ k, (∀ y0 y1 y2 y3 y4 y5 y6 y7 y8 y9 y10, LeO (laws_FnExactMapLeast.j0 k y0 y1 y2 y3 y4 y5 y6 y7 y8 y9 y10) (laws_FnExactMapLeast.j0 (k + 1) y0 y1 y2 y3 y4 y5 y6 y7 y8 y9 y10)) ∧ (∀ y0 y1 y2 y3 y4 y5 y6 y7, LeO (laws_FnExactMapLeast.j1 k y0 y1 y2 y3 y4 y5 y6 y7) (laws_FnExactMapLeast.j1 (k + 1) y0 y1 y2 y3 y4 y5 y6 y7)) ∧ (∀ y0 y1 y2 y3, LeO (laws_FnExactMapLeast.j2 k y0 y1 y2 y3) (laws_FnExactMapLeast.j2 (k + 1) y0 y1 y2 y3))
 | 0 => ⟨fun _ _ _ _ _ _ _ _ _ _ _ r h => by simp [laws_FnExactMapLeast.j0] at h, fun _ _ _ _ _ _ _ _ r h => by simp [laws_FnExactMapLeast.j1] at h, fun _ _ _ _ r h => by simp [laws_FnExactMapLeast.j2] at h⟩
 | k + 1 => by
  obtain ⟨ih0, ih1, ih2⟩ := laws_FnExactMapLeast.mono_l k
  refine ⟨?_, ?_, ?_⟩
  ·intro y0 y1 y2 y3 y4 y5 y6 y7 y8 y9 y10
   unfold laws_FnExactMapLeast.j0
   repeat' first
   | (with_reducible exact ih0 _ _ _ _ _ _ _ _ _ _ _)
   | (with_reducible exact ih1 _ _ _ _ _ _ _ _)
   | (with_reducible exact ih2 _ _ _ _)
   | (with_reducible exact impl_MapLeast.mono _ _ _)
   | (with_reducible exact laws_eqMap.mono _ _ _ _ _)
   | (with_reducible exact laws_heldMap.mono _ _ _ _)
   | (with_reducible exact laws_markMap.mono _ _ _ _)
   | (with_reducible exact laws_toMap.mono _ _ _)
   | (with_reducible exact spec_MapLeast.mono _ _ _)
   | (with_reducible exact LeO.refl _)
   | (with_reducible exact LeO.none _)
   | (with_reducible refine LeO.ite ?_ ?_)
   | (with_reducible refine LeO.bind ?_ (fun _ => ?_))
   | exact ih0 _ _ _ _ _ _ _ _ _ _ _
   | exact ih1 _ _ _ _ _ _ _ _
   | exact ih2 _ _ _ _
   | exact impl_MapLeast.mono _ _ _
   | exact laws_eqMap.mono _ _ _ _ _
   | exact laws_heldMap.mono _ _ _ _
   | exact laws_markMap.mono _ _ _ _
   | exact laws_toMap.mono _ _ _
   | exact spec_MapLeast.mono _ _ _
   | exact LeO.none _
   | refine LeO.ite ?_ ?_
   | refine LeO.bind ?_ (fun _ => ?_)
  ·intro y0 y1 y2 y3 y4 y5 y6 y7
   unfold laws_FnExactMapLeast.j1
   repeat' first
   | (with_reducible exact ih0 _ _ _ _ _ _ _ _ _ _ _)
   | (with_reducible exact ih1 _ _ _ _ _ _ _ _)
   | (with_reducible exact ih2 _ _ _ _)
   | (with_reducible exact impl_MapLeast.mono _ _ _)
   | (with_reducible exact laws_eqMap.mono _ _ _ _ _)
   | (with_reducible exact laws_heldMap.mono _ _ _ _)
   | (with_reducible exact laws_markMap.mono _ _ _ _)
   | (with_reducible exact laws_toMap.mono _ _ _)
   | (with_reducible exact spec_MapLeast.mono _ _ _)
   | (with_reducible exact LeO.refl _)
   | (with_reducible exact LeO.none _)
   | (with_reducible refine LeO.ite ?_ ?_)
   | (with_reducible refine LeO.bind ?_ (fun _ => ?_))
   | exact ih0 _ _ _ _ _ _ _ _ _ _ _
   | exact ih1 _ _ _ _ _ _ _ _
   | exact ih2 _ _ _ _
   | exact impl_MapLeast.mono _ _ _
   | exact laws_eqMap.mono _ _ _ _ _
   | exact laws_heldMap.mono _ _ _ _
   | exact laws_markMap.mono _ _ _ _
   | exact laws_toMap.mono _ _ _
   | exact spec_MapLeast.mono _ _ _
   | exact LeO.none _
   | refine LeO.ite ?_ ?_
   | refine LeO.bind ?_ (fun _ => ?_)
  ·intro y0 y1 y2 y3
   unfold laws_FnExactMapLeast.j2
   repeat' first
   | (with_reducible exact ih0 _ _ _ _ _ _ _ _ _ _ _)
   | (with_reducible exact ih1 _ _ _ _ _ _ _ _)
   | (with_reducible exact ih2 _ _ _ _)
   | (with_reducible exact impl_MapLeast.mono _ _ _)
   | (with_reducible exact laws_eqMap.mono _ _ _ _ _)
   | (with_reducible exact laws_heldMap.mono _ _ _ _)
   | (with_reducible exact laws_markMap.mono _ _ _ _)
   | (with_reducible exact laws_toMap.mono _ _ _)
   | (with_reducible exact spec_MapLeast.mono _ _ _)
   | (with_reducible exact LeO.refl _)
   | (with_reducible exact LeO.none _)
   | (with_reducible refine LeO.ite ?_ ?_)
   | (with_reducible refine LeO.bind ?_ (fun _ => ?_))
   | exact ih0 _ _ _ _ _ _ _ _ _ _ _
   | exact ih1 _ _ _ _ _ _ _ _
   | exact ih2 _ _ _ _
   | exact impl_MapLeast.mono _ _ _
   | exact laws_eqMap.mono _ _ _ _ _
   | exact laws_heldMap.mono _ _ _ _
   | exact laws_markMap.mono _ _ _ _
   | exact laws_toMap.mono _ _ _
   | exact spec_MapLeast.mono _ _ _
   | exact LeO.none _
   | refine LeO.ite ?_ ?_
   | refine LeO.bind ?_ (fun _ => ?_)
theorem laws_FnExactMapLeast.mono : ∀ a0 a1 k, LeO (laws_FnExactMapLeast.f k a0 a1) (laws_FnExactMapLeast.f (k + 1) a0 a1) := by
 intro a0 a1 k
 obtain ⟨ih0, ih1, ih2⟩ := laws_FnExactMapLeast.mono_l k
 unfold laws_FnExactMapLeast.f
 repeat' first
  | (with_reducible exact ih0 _ _ _ _ _ _ _ _ _ _ _)
  | (with_reducible exact ih1 _ _ _ _ _ _ _ _)
  | (with_reducible exact ih2 _ _ _ _)
  | (with_reducible exact impl_MapLeast.mono _ _ _)
  | (with_reducible exact laws_eqMap.mono _ _ _ _ _)
  | (with_reducible exact laws_heldMap.mono _ _ _ _)
  | (with_reducible exact laws_markMap.mono _ _ _ _)
  | (with_reducible exact laws_toMap.mono _ _ _)
  | (with_reducible exact spec_MapLeast.mono _ _ _)
  | (with_reducible exact LeO.refl _)
  | (with_reducible exact LeO.none _)
  | (with_reducible refine LeO.ite ?_ ?_)
  | (with_reducible refine LeO.bind ?_ (fun _ => ?_))
  | exact ih0 _ _ _ _ _ _ _ _ _ _ _
  | exact ih1 _ _ _ _ _ _ _ _
  | exact ih2 _ _ _ _
  | exact impl_MapLeast.mono _ _ _
  | exact laws_eqMap.mono _ _ _ _ _
  | exact laws_heldMap.mono _ _ _ _
  | exact laws_markMap.mono _ _ _ _
  | exact laws_toMap.mono _ _ _
  | exact spec_MapLeast.mono _ _ _
  | exact LeO.none _
  | refine LeO.ite ?_ ?_
  | refine LeO.bind ?_ (fun _ => ?_)
set_option maxHeartbeats 8000000 in
set_option maxRecDepth 100000 in
theorem laws_FnExactMapLeast.calls (k : Nat) (A0_0 : Option Addr) (c0_0 : Nat) (l0_0 : List Int) (A0_1 : Option Addr) (c0_1 : Nat) (l0_1 : List Int) (r : Bool) (w : World) (hr0_0 : Kd.C (Kd.int .i64) w A0_0 l0_0.length l0_0) (hc0_0 : l0_0.length ≤ c0_0) (hr0_1 : Kd.C (Kd.int .i64) w A0_1 l0_1.length l0_1) (hc0_1 : l0_1.length ≤ c0_1) (hr_ : Aside0 (r = true)) (h : laws_FnExactMapLeast.f k l0_0 l0_1 = some r) :
 Calls Try.prog 7 #[.agg #[.slice A0_0 l0_0.length c0_0, .slice A0_1 l0_1.length c0_1]] w fun e w' => e = .returned (.bool r) ∧ Below w.heap.size w w' := by
 have hu37 := Try.underlying37
 have hu40 := Try.underlying40
 have HR0_0 := Aside0.mk hr0_0
 have HC0_0 := Aside0.mk hc0_0
 clear hr0_0 hc0_0
 have HR0_1 := Aside0.mk hr0_1
 have HC0_1 := Aside0.mk hc0_1
 clear hr0_1 hc0_1
 have HB := Aside0.mk (Below.refl w.heap.size w)
 have H : ((laws_szMap.f l0_0 l0_1 1048576).bind fun t706 => (if t706 < 0 then (some true) else ((laws_toMap.f k l0_0 l0_1).bind fun bt707 => ((spec_MapLeast.f k bt707.1 bt707.2).bind fun bt713 => ((laws_toMap.f k l0_0 l0_1).bind fun bt721 => ((impl_MapLeast.f k bt721.1 bt721.2).bind fun bt728 => ((laws_eqMap.f k bt728.1 bt728.2.1 bt713.1 bt713.2.1).bind fun t736 => (if t736 = true then (laws_FnExactMapLeast.j0 k bt713.2.2 bt728.2.2 (bt728.2.2 != bt713.2.2) l0_0 l0_1 bt713.1 bt713.2.1 bt721.1 bt721.2 bt728.1 bt728.2.1) else (laws_FnExactMapLeast.j0 k bt713.2.2 bt728.2.2 true l0_0 l0_1 bt713.1 bt713.2.1 bt721.1 bt721.2 bt728.1 bt728.2.1))))))))) = some r := h
 clear h
 replace H := Option.bind_eq_some_iff.mp H
 obtain ⟨t706, A20, H⟩ := H
 replace H : (if t706 < 0 then (some true) else ((laws_toMap.f k l0_0 l0_1).bind fun bt707 => ((spec_MapLeast.f k bt707.1 bt707.2).bind fun bt713 => ((laws_toMap.f k l0_0 l0_1).bind fun bt721 => ((impl_MapLeast.f k bt721.1 bt721.2).bind fun bt728 => ((laws_eqMap.f k bt728.1 bt728.2.1 bt713.1 bt713.2.1).bind fun t736 => (if t736 = true then (laws_FnExactMapLeast.j0 k bt713.2.2 bt728.2.2 (bt728.2.2 != bt713.2.2) l0_0 l0_1 bt713.1 bt713.2.1 bt721.1 bt721.2 bt728.1 bt728.2.1) else (laws_FnExactMapLeast.j0 k bt713.2.2 bt728.2.2 true l0_0 l0_1 bt713.1 bt713.2.1 bt721.1 bt721.2 bt728.1 bt728.2.1)))))))) = some r := H
 have A2 := Aside0.mk A20
 clear A20
 by_cases c3 : t706 < 0
 ·rw [if_pos c3] at H
  have c3b0 : decide (t706 < 0) = true := decide_eq_true c3
  clear c3
  obtain rfl := Option.some.inj H
  go_enter Try.func7, Try.ntmps7
  go_wp2_with (first | ((with_reducible refine gate_dst (N := 1) rfl ?_); refine bE 1 #[.slice A0_0 l0_0.length c0_0, .slice A0_1 l0_1.length c0_1] 37 ?_; intro gb705 hg w4 hbox hb; have BK705 := Aside0.mk (hbox); have GW705 := gS HB hg; have GE705 := gS HB hg; replace HB := bS HB hb; clear hb hbox hg; have hcz5_0 := zc0 BK705; have hcz5_1 := zc1 BK705; have hfz5_0 := blk_frozen BK705.out 0; have hfz5_1 := blk_frozen BK705.out 1) | ((with_reducible refine gate_callee (f := 19) rfl ?_); refine gL (some 16) Try.func19 #[.agg #[.slice A0_0 l0_0.length c0_0, .slice A0_1 l0_1.length c0_1], .int .i64 1048576] ?_; (with_reducible refine (laws_szMap.calls _ _ l0_0 _ _ l0_1 1048576 t706 _ ?side1 ?side2 ?side3 ?side4 A2.out).mono ?_); (case side1 => exact cB HR0_0 HB); (case side2 => exact HC0_0.out); (case side3 => exact cB HR0_1 HB); (case side4 => exact HC0_1.out); rintro e w6 ⟨rfl, hb⟩; refine ⟨_, rfl, ?_⟩; replace BK705 := kB BK705 hb; replace HB := bS HB hb; (try clear hb); (try clear hb2); (try clear hk); (try clear hi)))
  go_ret
  exact ⟨eR, bP HB⟩
 ·rw [if_neg c3] at H
  have c3b0 : decide (t706 < 0) = false := decide_eq_false c3
  clear c3
  replace H := Option.bind_eq_some_iff.mp H
  obtain ⟨⟨t707, t710⟩, A70, H⟩ := H
  replace H : ((spec_MapLeast.f k t707 t710).bind fun bt713 => ((laws_toMap.f k l0_0 l0_1).bind fun bt721 => ((impl_MapLeast.f k bt721.1 bt721.2).bind fun bt728 => ((laws_eqMap.f k bt728.1 bt728.2.1 bt713.1 bt713.2.1).bind fun t736 => (if t736 = true then (laws_FnExactMapLeast.j0 k bt713.2.2 bt728.2.2 (bt728.2.2 != bt713.2.2) l0_0 l0_1 bt713.1 bt713.2.1 bt721.1 bt721.2 bt728.1 bt728.2.1) else (laws_FnExactMapLeast.j0 k bt713.2.2 bt728.2.2 true l0_0 l0_1 bt713.1 bt713.2.1 bt721.1 bt721.2 bt728.1 bt728.2.1)))))) = some r := H
  have A7 := Aside0.mk A70
  clear A70
  replace H := Option.bind_eq_some_iff.mp H
  obtain ⟨⟨t713, t716, t719⟩, A80, H⟩ := H
  replace H : ((laws_toMap.f k l0_0 l0_1).bind fun bt721 => ((impl_MapLeast.f k bt721.1 bt721.2).bind fun bt728 => ((laws_eqMap.f k bt728.1 bt728.2.1 t713 t716).bind fun t736 => (if t736 = true then (laws_FnExactMapLeast.j0 k t719 bt728.2.2 (bt728.2.2 != t719) l0_0 l0_1 t713 t716 bt721.1 bt721.2 bt728.1 bt728.2.1) else (laws_FnExactMapLeast.j0 k t719 bt728.2.2 true l0_0 l0_1 t713 t716 bt721.1 bt721.2 bt728.1 bt728.2.1))))) = some r := H
  have A8 := Aside0.mk A80
  clear A80
  replace H := Option.bind_eq_some_iff.mp H
  obtain ⟨⟨t721, t724⟩, A90, H⟩ := H
  replace H : ((impl_MapLeast.f k t721 t724).bind fun bt728 => ((laws_eqMap.f k bt728.1 bt728.2.1 t713 t716).bind fun t736 => (if t736 = true then (laws_FnExactMapLeast.j0 k t719 bt728.2.2 (bt728.2.2 != t719) l0_0 l0_1 t713 t716 t721 t724 bt728.1 bt728.2.1) else (laws_FnExactMapLeast.j0 k t719 bt728.2.2 true l0_0 l0_1 t713 t716 t721 t724 bt728.1 bt728.2.1)))) = some r := H
  have A9 := Aside0.mk A90
  clear A90
  replace H := Option.bind_eq_some_iff.mp H
  obtain ⟨⟨t728, t731, t734⟩, A100, H⟩ := H
  replace H : ((laws_eqMap.f k t728 t731 t713 t716).bind fun t736 => (if t736 = true then (laws_FnExactMapLeast.j0 k t719 t734 (t734 != t719) l0_0 l0_1 t713 t716 t721 t724 t728 t731) else (laws_FnExactMapLeast.j0 k t719 t734 true l0_0 l0_1 t713 t716 t721 t724 t728 t731))) = some r := H
  have A10 := Aside0.mk A100
  clear A100
  have HC11 := Aside0.mk H
  clear H
  go_enter Try.func7, Try.ntmps7
  go_upto_region 8 with (first | ((with_reducible refine gate_dst (N := 1) rfl ?_); refine bE 1 #[.slice A0_0 l0_0.length c0_0, .slice A0_1 l0_1.length c0_1] 37 ?_; intro gb705 hg w12 hbox hb; have BK705 := Aside0.mk (hbox); have GW705 := gS HB hg; have GE705 := gS HB hg; replace HB := bS HB hb; clear hb hbox hg; have hcz13_0 := zc0 BK705; have hcz13_1 := zc1 BK705; have hfz13_0 := blk_frozen BK705.out 0; have hfz13_1 := blk_frozen BK705.out 1) | ((with_reducible refine gate_callee (f := 19) rfl ?_); refine gL (some 16) Try.func19 #[.agg #[.slice A0_0 l0_0.length c0_0, .slice A0_1 l0_1.length c0_1], .int .i64 1048576] ?_; (with_reducible refine (laws_szMap.calls _ _ l0_0 _ _ l0_1 1048576 t706 _ ?side1 ?side2 ?side3 ?side4 A2.out).mono ?_); (case side1 => exact cB HR0_0 HB); (case side2 => exact HC0_0.out); (case side3 => exact cB HR0_1 HB); (case side4 => exact HC0_1.out); rintro e w14 ⟨rfl, hb⟩; refine ⟨_, rfl, ?_⟩; replace BK705 := kB BK705 hb; replace HB := bS HB hb; (try clear hb); (try clear hb2); (try clear hk); (try clear hi); have hcz15_0 := zc0 BK705; have hcz15_1 := zc1 BK705; have hfz15_0 := blk_frozen BK705.out 0; have hfz15_1 := blk_frozen BK705.out 1) | ((with_reducible refine gate_callee (f := 21) rfl ?_); refine gL (some 21) Try.func21 #[.agg #[.slice A0_0 l0_0.length c0_0, .slice A0_1 l0_1.length c0_1]] ?_; (with_reducible refine (laws_toMap.calls k _ _ l0_0 _ _ l0_1 t707 t710 _ ?side1 ?side2 ?side3 ?side4 A7.out).mono ?_); (case side1 => exact cB HR0_0 HB); (case side2 => exact HC0_0.out); (case side3 => exact cB HR0_1 HB); (case side4 => exact HC0_1.out); rintro e w16 ⟨v708, v711, rfl, ho0, ho1, hb⟩; refine ⟨_, rfl, ?_⟩; have HO709 := rL ho0 HB; have HO712 := rL ho1 HB; replace BK705 := kB BK705 hb; replace HB := bS HB hb; (try clear hb); (try clear hb2); (try clear hk); (try clear hi); (try clear ho0); (try clear ho1); obtain ⟨Ao17, co17, eo17⟩ := Kd.R_slice HO709.out; subst eo17; obtain ⟨Ao18, co18, eo18⟩ := Kd.R_slice HO712.out; subst eo18) | ((with_reducible refine gate_callee (f := 28) rfl ?_); refine gL (some 22) Try.func28 #[.agg #[.slice Ao17 t707.length co17, .slice Ao18 t710.length co18]] ?_; (with_reducible refine (spec_MapLeast.calls k _ _ t707 _ _ t710 t713 t716 t719 _ ?side1 ?side2 ?side3 ?side4 A8.out).mono ?_); (case side1 => exact cP (Kd.R_reads' HO709.out).2.2); (case side2 => exact (Kd.R_reads' HO709.out).2.1); (case side3 => exact cP (Kd.R_reads' HO712.out).2.2); (case side4 => exact (Kd.R_reads' HO712.out).2.1); rintro e w19 ⟨v714, v717, rfl, ho0, ho1, hb⟩; refine ⟨_, rfl, ?_⟩; have HO715 := Aside0.mk (Kd.R_lower (Kd.R_new' (Kd.R_new' ho0 (Kd.R_lt (rP HO709))) (Kd.R_lt (rP HO712))) (below_size (bP HB))); have HO718 := Aside0.mk (Kd.R_lower (Kd.R_new' (Kd.R_new' ho1 (Kd.R_lt (rP HO709))) (Kd.R_lt (rP HO712))) (below_size (bP HB))); replace HO709 := Aside0.mk (Kd.R_mono (Kd.R_told (Kd.R_told (Kd.R_old (rP HO709) hb) (Kd.R_base ho0)) (Kd.R_base ho1)) (fun _ h_ => h_.1)); replace HO712 := Aside0.mk (Kd.R_mono (Kd.R_told (Kd.R_told (Kd.R_old (rP HO712) hb) (Kd.R_base ho0)) (Kd.R_base ho1)) (fun _ h_ => h_.1)); replace BK705 := kB BK705 hb; replace HB := bS HB hb; (try clear hb); (try clear hb2); (try clear hk); (try clear hi); (try clear ho0); (try clear ho1)) | ((with_reducible refine gate_dst (N := 4) rfl ?_); refine bE 4 #[.slice none 0 0, .slice none 0 0] 40 ?_; intro gb720 hg w20 hbox hb; replace HO709 := rB HO709 hb; replace HO712 := rB HO712 hb; replace HO715 := rB HO715 hb; replace HO718 := rB HO718 hb; have BK720 := Aside0.mk (hbox); have GW720 := gS HB hg; have GE720 := gS HB hg; replace HB := bS HB hb; have NB705_720 := nL BK705 hg; have NB720_705 := nG BK705 hg; replace BK705 := kB BK705 hb; clear hb hbox hg; obtain ⟨Ao21, co21, eo21⟩ := Kd.R_slice HO715.out; subst eo21; have hnb22 := NB720_705.out; have hnc22 := NB705_720.out; have hcz23_0 := zc0 BK720; have hcz23_1 := zc1 BK720; have hfz23_0 := blk_frozen BK720.out 0; have hfz23_1 := blk_frozen BK720.out 1; obtain ⟨Ao24, co24, eo24⟩ := Kd.R_slice HO718.out; subst eo24; have hcz25_0 := zc0 BK705; have hcz25_1 := zc1 BK705; have hfz25_0 := blk_frozen BK705.out 0; have hfz25_1 := blk_frozen BK705.out 1) | ((with_reducible refine gate_callee (f := 21) rfl ?_); refine gL (some 26) Try.func21 #[.agg #[.slice A0_0 l0_0.length c0_0, .slice A0_1 l0_1.length c0_1]] ?_; (with_reducible refine (laws_toMap.calls k _ _ l0_0 _ _ l0_1 t721 t724 _ ?side1 ?side2 ?side3 ?side4 A9.out).mono ?_); (case side1 => exact Kd.C_below HR0_0.out (bP HB)); (case side2 => exact HC0_0.out); (case side3 => exact Kd.C_below HR0_1.out (bP HB)); (case side4 => exact HC0_1.out); rintro e w26 ⟨v722, v725, rfl, ho0, ho1, hb⟩; refine ⟨_, rfl, ?_⟩; have HO723 := Aside0.mk (Kd.R_lower (Kd.R_new' (Kd.R_new' (Kd.R_new' (Kd.R_new' ho0 (Kd.R_lt (rT (Kd.R_mono (Kd.R_far (p := ⟨gb720, 1, none⟩) (Kd.R_far (p := ⟨gb720, 0, none⟩) (Kd.R_types HO709.out BK720.out (by decide)) (fun _ hk => hk.2) (.slice Ao21 t713.length co21)) (fun _ hk => hk.2) (.slice Ao24 t716.length co24)) (fun _ h_ => h_.1))))) (Kd.R_lt (rT (Kd.R_mono (Kd.R_far (p := ⟨gb720, 1, none⟩) (Kd.R_far (p := ⟨gb720, 0, none⟩) (Kd.R_types HO712.out BK720.out (by decide)) (fun _ hk => hk.2) (.slice Ao21 t713.length co21)) (fun _ hk => hk.2) (.slice Ao24 t716.length co24)) (fun _ h_ => h_.1))))) (Kd.R_lt (rT (Kd.R_mono (Kd.R_far (p := ⟨gb720, 1, none⟩) (Kd.R_far (p := ⟨gb720, 0, none⟩) (Kd.R_types HO715.out BK720.out (by decide)) (fun _ hk => hk.2) (.slice Ao21 t713.length co21)) (fun _ hk => hk.2) (.slice Ao24 t716.length co24)) (fun _ h_ => h_.1))))) (Kd.R_lt (rT (Kd.R_mono (Kd.R_far (p := ⟨gb720, 1, none⟩) (Kd.R_far (p := ⟨gb720, 0, none⟩) (Kd.R_types HO718.out BK720.out (by decide)) (fun _ hk => hk.2) (.slice Ao21 t713.length co21)) (fun _ hk => hk.2) (.slice Ao24 t716.length co24)) (fun _ h_ => h_.1))))) (below_size (bP HB))); have HO726 := Aside0.mk (Kd.R_lower (Kd.R_new' (Kd.R_new' (Kd.R_new' (Kd.R_new' ho1 (Kd.R_lt (rT (Kd.R_mono (Kd.R_far (p := ⟨gb720, 1, none⟩) (Kd.R_far (p := ⟨gb720, 0, none⟩) (Kd.R_types HO709.out BK720.out (by decide)) (fun _ hk => hk.2) (.slice Ao21 t713.length co21)) (fun _ hk => hk.2) (.slice Ao24 t716.length co24)) (fun _ h_ => h_.1))))) (Kd.R_lt (rT (Kd.R_mono (Kd.R_far (p := ⟨gb720, 1, none⟩) (Kd.R_far (p := ⟨gb720, 0, none⟩) (Kd.R_types HO712.out BK720.out (by decide)) (fun _ hk => hk.2) (.slice Ao21 t713.length co21)) (fun _ hk => hk.2) (.slice Ao24 t716.length co24)) (fun _ h_ => h_.1))))) (Kd.R_lt (rT (Kd.R_mono (Kd.R_far (p := ⟨gb720, 1, none⟩) (Kd.R_far (p := ⟨gb720, 0, none⟩) (Kd.R_types HO715.out BK720.out (by decide)) (fun _ hk => hk.2) (.slice Ao21 t713.length co21)) (fun _ hk => hk.2) (.slice Ao24 t716.length co24)) (fun _ h_ => h_.1))))) (Kd.R_lt (rT (Kd.R_mono (Kd.R_far (p := ⟨gb720, 1, none⟩) (Kd.R_far (p := ⟨gb720, 0, none⟩) (Kd.R_types HO718.out BK720.out (by decide)) (fun _ hk => hk.2) (.slice Ao21 t713.length co21)) (fun _ hk => hk.2) (.slice Ao24 t716.length co24)) (fun _ h_ => h_.1))))) (below_size (bP HB))); replace HO709 := Aside0.mk (Kd.R_mono (Kd.R_told (Kd.R_told (Kd.R_old (rT (Kd.R_mono (Kd.R_far (p := ⟨gb720, 1, none⟩) (Kd.R_far (p := ⟨gb720, 0, none⟩) (Kd.R_types HO709.out BK720.out (by decide)) (fun _ hk => hk.2) (.slice Ao21 t713.length co21)) (fun _ hk => hk.2) (.slice Ao24 t716.length co24)) (fun _ h_ => h_.1))) hb) (Kd.R_base ho0)) (Kd.R_base ho1)) (fun _ h_ => h_.1)); replace HO712 := Aside0.mk (Kd.R_mono (Kd.R_told (Kd.R_told (Kd.R_old (rT (Kd.R_mono (Kd.R_far (p := ⟨gb720, 1, none⟩) (Kd.R_far (p := ⟨gb720, 0, none⟩) (Kd.R_types HO712.out BK720.out (by decide)) (fun _ hk => hk.2) (.slice Ao21 t713.length co21)) (fun _ hk => hk.2) (.slice Ao24 t716.length co24)) (fun _ h_ => h_.1))) hb) (Kd.R_base ho0)) (Kd.R_base ho1)) (fun _ h_ => h_.1)); replace HO715 := Aside0.mk (Kd.R_mono (Kd.R_told (Kd.R_told (Kd.R_old (rT (Kd.R_mono (Kd.R_far (p := ⟨gb720, 1, none⟩) (Kd.R_far (p := ⟨gb720, 0, none⟩) (Kd.R_types HO715.out BK720.out (by decide)) (fun _ hk => hk.2) (.slice Ao21 t713.length co21)) (fun _ hk => hk.2) (.slice Ao24 t716.length co24)) (fun _ h_ => h_.1))) hb) (Kd.R_base ho0)) (Kd.R_base ho1)) (fun _ h_ => h_.1)); replace HO718 := Aside0.mk (Kd.R_mono (Kd.R_told (Kd.R_told (Kd.R_old (rT (Kd.R_mono (Kd.R_far (p := ⟨gb720, 1, none⟩) (Kd.R_far (p := ⟨gb720, 0, none⟩) (Kd.R_types HO718.out BK720.out (by decide)) (fun _ hk => hk.2) (.slice Ao21 t713.length co21)) (fun _ hk => hk.2) (.slice Ao24 t716.length co24)) (fun _ h_ => h_.1))) hb) (Kd.R_base ho0)) (Kd.R_base ho1)) (fun _ h_ => h_.1)); replace BK705 := kG BK705 hb; replace BK720 := Aside0.mk (blk_below (g := gb720) (o := .cells #[.slice Ao21 t713.length co21, .slice Ao24 t716.length co24] 40 (0, 0)) (by (with_reducible repeat (first | refine blk_drewN ?_ _ | refine blk_drew ?_ | refine blk_alloc ?_ _)); refine blk_put (cs := #[.slice Ao21 t713.length co21, .slice none 0 0]) ?_ 1 _ rfl; (with_reducible repeat (first | refine blk_drewN ?_ _ | refine blk_drew ?_ | refine blk_alloc ?_ _)); refine blk_put (cs := #[.slice none 0 0, .slice none 0 0]) ?_ 0 _ rfl; (with_reducible repeat (first | refine blk_drewN ?_ _ | refine blk_drew ?_ | refine blk_alloc ?_ _)); exact BK720.out) hb); replace HB := bS HB hb; (try clear hb); (try clear hb2); (try clear hk); (try clear hi); (try clear ho0); (try clear ho1)) | ((with_reducible refine gate_dst (N := 6) rfl ?_); refine bE 6 #[.slice none 0 0, .slice none 0 0] 40 ?_; intro gb727 hg w27 hbox hb; replace HO709 := rB HO709 hb; replace HO712 := rB HO712 hb; replace HO715 := rB HO715 hb; replace HO718 := rB HO718 hb; replace HO723 := rB HO723 hb; replace HO726 := rB HO726 hb; have BK727 := Aside0.mk (hbox); have GW727 := gS HB hg; have GE727 := gS HB hg; replace HB := bS HB hb; have NB705_727 := nL BK705 hg; have NB727_705 := nG BK705 hg; replace BK705 := kB BK705 hb; have NB720_727 := nL BK720 hg; have NB727_720 := nG BK720 hg; replace BK720 := kB BK720 hb; clear hb hbox hg; obtain ⟨Ao28, co28, eo28⟩ := Kd.R_slice HO723.out; subst eo28; have hnb29 := NB727_705.out; have hnc29 := NB705_727.out; have hnb30 := NB727_720.out; have hnc30 := NB720_727.out; have hcz31_0 := zc0 BK727; have hcz31_1 := zc1 BK727; have hfz31_0 := blk_frozen BK727.out 0; have hfz31_1 := blk_frozen BK727.out 1; obtain ⟨Ao32, co32, eo32⟩ := Kd.R_slice HO726.out; subst eo32) | ((with_reducible refine gate_callee (f := 29) rfl ?_); refine gL (some 29) Try.func29 #[.agg #[.slice Ao28 t721.length co28, .slice Ao32 t724.length co32]] ?_; (with_reducible refine (impl_MapLeast.calls k _ _ t721 _ _ t724 t728 t731 t734 _ ?side1 ?side2 ?side3 ?side4 A10.out).mono ?_); (case side1 => refine (Kd.R_reads' (e := 3) (base := w.heap.size) (ok := fun k_ => ((((some k_ ≠ (.slice Ao32 t724.length co32 : Value).ownBlock ∧ some k_ ≠ (.slice Ao17 t707.length co17 : Value).ownBlock) ∧ some k_ ≠ (.slice Ao18 t710.length co18 : Value).ownBlock) ∧ some k_ ≠ (.slice Ao21 t713.length co21 : Value).ownBlock) ∧ some k_ ≠ (.slice Ao24 t716.length co24 : Value).ownBlock)) (n := t721.length) (c := co28) ?_).2.2; exact (rT (Kd.R_mono (Kd.R_far (p := ⟨gb727, 1, none⟩) (Kd.R_far (p := ⟨gb727, 0, none⟩) (Kd.R_types HO723.out BK727.out (by decide)) (fun _ hk => hk.2) (.slice Ao28 t721.length co28)) (fun _ hk => hk.2) (.slice Ao32 t724.length co32)) (fun _ h_ => h_.1)))); (case side2 => exact (Kd.R_reads' HO723.out).2.1); (case side3 => refine (Kd.R_reads' (e := 3) (base := w.heap.size) (ok := fun k_ => ((((some k_ ≠ (.slice Ao28 t721.length co28 : Value).ownBlock ∧ some k_ ≠ (.slice Ao17 t707.length co17 : Value).ownBlock) ∧ some k_ ≠ (.slice Ao18 t710.length co18 : Value).ownBlock) ∧ some k_ ≠ (.slice Ao21 t713.length co21 : Value).ownBlock) ∧ some k_ ≠ (.slice Ao24 t716.length co24 : Value).ownBlock)) (n := t724.length) (c := co32) ?_).2.2; exact (rT (Kd.R_mono (Kd.R_far (p := ⟨gb727, 1, none⟩) (Kd.R_far (p := ⟨gb727, 0, none⟩) (Kd.R_types HO726.out BK727.out (by decide)) (fun _ hk => hk.2) (.slice Ao28 t721.length co28)) (fun _ hk => hk.2) (.slice Ao32 t724.length co32)) (fun _ h_ => h_.1)))); (case side4 => exact (Kd.R_reads' HO726.out).2.1); rintro e w33 ⟨v729, v732, rfl, ho0, ho1, hb⟩; refine ⟨_, rfl, ?_⟩; have HO730 := Aside0.mk (Kd.R_lower (Kd.R_new' (Kd.R_new' (Kd.R_new' (Kd.R_new' (Kd.R_new' (Kd.R_new' ho0 (Kd.R_lt (rT (Kd.R_mono (Kd.R_far (p := ⟨gb727, 1, none⟩) (Kd.R_far (p := ⟨gb727, 0, none⟩) (Kd.R_types HO709.out BK727.out (by decide)) (fun _ hk => hk.2) (.slice Ao28 t721.length co28)) (fun _ hk => hk.2) (.slice Ao32 t724.length co32)) (fun _ h_ => h_.1))))) (Kd.R_lt (rT (Kd.R_mono (Kd.R_far (p := ⟨gb727, 1, none⟩) (Kd.R_far (p := ⟨gb727, 0, none⟩) (Kd.R_types HO712.out BK727.out (by decide)) (fun _ hk => hk.2) (.slice Ao28 t721.length co28)) (fun _ hk => hk.2) (.slice Ao32 t724.length co32)) (fun _ h_ => h_.1))))) (Kd.R_lt (rT (Kd.R_mono (Kd.R_far (p := ⟨gb727, 1, none⟩) (Kd.R_far (p := ⟨gb727, 0, none⟩) (Kd.R_types HO715.out BK727.out (by decide)) (fun _ hk => hk.2) (.slice Ao28 t721.length co28)) (fun _ hk => hk.2) (.slice Ao32 t724.length co32)) (fun _ h_ => h_.1))))) (Kd.R_lt (rT (Kd.R_mono (Kd.R_far (p := ⟨gb727, 1, none⟩) (Kd.R_far (p := ⟨gb727, 0, none⟩) (Kd.R_types HO718.out BK727.out (by decide)) (fun _ hk => hk.2) (.slice Ao28 t721.length co28)) (fun _ hk => hk.2) (.slice Ao32 t724.length co32)) (fun _ h_ => h_.1))))) (Kd.R_lt (rT (Kd.R_mono (Kd.R_far (p := ⟨gb727, 1, none⟩) (Kd.R_far (p := ⟨gb727, 0, none⟩) (Kd.R_types HO723.out BK727.out (by decide)) (fun _ hk => hk.2) (.slice Ao28 t721.length co28)) (fun _ hk => hk.2) (.slice Ao32 t724.length co32)) (fun _ h_ => h_.1))))) (Kd.R_lt (rT (Kd.R_mono (Kd.R_far (p := ⟨gb727, 1, none⟩) (Kd.R_far (p := ⟨gb727, 0, none⟩) (Kd.R_types HO726.out BK727.out (by decide)) (fun _ hk => hk.2) (.slice Ao28 t721.length co28)) (fun _ hk => hk.2) (.slice Ao32 t724.length co32)) (fun _ h_ => h_.1))))) (below_size (bP HB))); have HO733 := Aside0.mk (Kd.R_lower (Kd.R_new' (Kd.R_new' (Kd.R_new' (Kd.R_new' (Kd.R_new' (Kd.R_new' ho1 (Kd.R_lt (rT (Kd.R_mono (Kd.R_far (p := ⟨gb727, 1, none⟩) (Kd.R_far (p := ⟨gb727, 0, none⟩) (Kd.R_types HO709.out BK727.out (by decide)) (fun _ hk => hk.2) (.slice Ao28 t721.length co28)) (fun _ hk => hk.2) (.slice Ao32 t724.length co32)) (fun _ h_ => h_.1))))) (Kd.R_lt (rT (Kd.R_mono (Kd.R_far (p := ⟨gb727, 1, none⟩) (Kd.R_far (p := ⟨gb727, 0, none⟩) (Kd.R_types HO712.out BK727.out (by decide)) (fun _ hk => hk.2) (.slice Ao28 t721.length co28)) (fun _ hk => hk.2) (.slice Ao32 t724.length co32)) (fun _ h_ => h_.1))))) (Kd.R_lt (rT (Kd.R_mono (Kd.R_far (p := ⟨gb727, 1, none⟩) (Kd.R_far (p := ⟨gb727, 0, none⟩) (Kd.R_types HO715.out BK727.out (by decide)) (fun _ hk => hk.2) (.slice Ao28 t721.length co28)) (fun _ hk => hk.2) (.slice Ao32 t724.length co32)) (fun _ h_ => h_.1))))) (Kd.R_lt (rT (Kd.R_mono (Kd.R_far (p := ⟨gb727, 1, none⟩) (Kd.R_far (p := ⟨gb727, 0, none⟩) (Kd.R_types HO718.out BK727.out (by decide)) (fun _ hk => hk.2) (.slice Ao28 t721.length co28)) (fun _ hk => hk.2) (.slice Ao32 t724.length co32)) (fun _ h_ => h_.1))))) (Kd.R_lt (rT (Kd.R_mono (Kd.R_far (p := ⟨gb727, 1, none⟩) (Kd.R_far (p := ⟨gb727, 0, none⟩) (Kd.R_types HO723.out BK727.out (by decide)) (fun _ hk => hk.2) (.slice Ao28 t721.length co28)) (fun _ hk => hk.2) (.slice Ao32 t724.length co32)) (fun _ h_ => h_.1))))) (Kd.R_lt (rT (Kd.R_mono (Kd.R_far (p := ⟨gb727, 1, none⟩) (Kd.R_far (p := ⟨gb727, 0, none⟩) (Kd.R_types HO726.out BK727.out (by decide)) (fun _ hk => hk.2) (.slice Ao28 t721.length co28)) (fun _ hk => hk.2) (.slice Ao32 t724.length co32)) (fun _ h_ => h_.1))))) (below_size (bP HB))); replace HO709 := Aside0.mk (Kd.R_mono (Kd.R_told (Kd.R_told (Kd.R_old (rT (Kd.R_mono (Kd.R_far (p := ⟨gb727, 1, none⟩) (Kd.R_far (p := ⟨gb727, 0, none⟩) (Kd.R_types HO709.out BK727.out (by decide)) (fun _ hk => hk.2) (.slice Ao28 t721.length co28)) (fun _ hk => hk.2) (.slice Ao32 t724.length co32)) (fun _ h_ => h_.1))) hb) (Kd.R_base ho0)) (Kd.R_base ho1)) (fun _ h_ => h_.1)); replace HO712 := Aside0.mk (Kd.R_mono (Kd.R_told (Kd.R_told (Kd.R_old (rT (Kd.R_mono (Kd.R_far (p := ⟨gb727, 1, none⟩) (Kd.R_far (p := ⟨gb727, 0, none⟩) (Kd.R_types HO712.out BK727.out (by decide)) (fun _ hk => hk.2) (.slice Ao28 t721.length co28)) (fun _ hk => hk.2) (.slice Ao32 t724.length co32)) (fun _ h_ => h_.1))) hb) (Kd.R_base ho0)) (Kd.R_base ho1)) (fun _ h_ => h_.1)); replace HO715 := Aside0.mk (Kd.R_mono (Kd.R_told (Kd.R_told (Kd.R_old (rT (Kd.R_mono (Kd.R_far (p := ⟨gb727, 1, none⟩) (Kd.R_far (p := ⟨gb727, 0, none⟩) (Kd.R_types HO715.out BK727.out (by decide)) (fun _ hk => hk.2) (.slice Ao28 t721.length co28)) (fun _ hk => hk.2) (.slice Ao32 t724.length co32)) (fun _ h_ => h_.1))) hb) (Kd.R_base ho0)) (Kd.R_base ho1)) (fun _ h_ => h_.1)); replace HO718 := Aside0.mk (Kd.R_mono (Kd.R_told (Kd.R_told (Kd.R_old (rT (Kd.R_mono (Kd.R_far (p := ⟨gb727, 1, none⟩) (Kd.R_far (p := ⟨gb727, 0, none⟩) (Kd.R_types HO718.out BK727.out (by decide)) (fun _ hk => hk.2) (.slice Ao28 t721.length co28)) (fun _ hk => hk.2) (.slice Ao32 t724.length co32)) (fun _ h_ => h_.1))) hb) (Kd.R_base ho0)) (Kd.R_base ho1)) (fun _ h_ => h_.1)); replace HO723 := Aside0.mk (Kd.R_mono (Kd.R_told (Kd.R_told (Kd.R_old (rT (Kd.R_mono (Kd.R_far (p := ⟨gb727, 1, none⟩) (Kd.R_far (p := ⟨gb727, 0, none⟩) (Kd.R_types HO723.out BK727.out (by decide)) (fun _ hk => hk.2) (.slice Ao28 t721.length co28)) (fun _ hk => hk.2) (.slice Ao32 t724.length co32)) (fun _ h_ => h_.1))) hb) (Kd.R_base ho0)) (Kd.R_base ho1)) (fun _ h_ => h_.1)); replace HO726 := Aside0.mk (Kd.R_mono (Kd.R_told (Kd.R_told (Kd.R_old (rT (Kd.R_mono (Kd.R_far (p := ⟨gb727, 1, none⟩) (Kd.R_far (p := ⟨gb727, 0, none⟩) (Kd.R_types HO726.out BK727.out (by decide)) (fun _ hk => hk.2) (.slice Ao28 t721.length co28)) (fun _ hk => hk.2) (.slice Ao32 t724.length co32)) (fun _ h_ => h_.1))) hb) (Kd.R_base ho0)) (Kd.R_base ho1)) (fun _ h_ => h_.1)); replace BK705 := kG BK705 hb; replace BK720 := kG BK720 hb; replace BK727 := Aside0.mk (blk_below (g := gb727) (o := .cells #[.slice Ao28 t721.length co28, .slice Ao32 t724.length co32] 40 (0, 0)) (by (with_reducible repeat (first | refine blk_drewN ?_ _ | refine blk_drew ?_ | refine blk_alloc ?_ _)); refine blk_put (cs := #[.slice Ao28 t721.length co28, .slice none 0 0]) ?_ 1 _ rfl; (with_reducible repeat (first | refine blk_drewN ?_ _ | refine blk_drew ?_ | refine blk_alloc ?_ _)); refine blk_put (cs := #[.slice none 0 0, .slice none 0 0]) ?_ 0 _ rfl; (with_reducible repeat (first | refine blk_drewN ?_ _ | refine blk_drew ?_ | refine blk_alloc ?_ _)); exact BK727.out) hb); replace HB := bS HB hb; (try clear hb); (try clear hb2); (try clear hk); (try clear hi); (try clear ho0); (try clear ho1)) | ((with_reducible refine gate_dst (N := 7) rfl ?_); refine bE 7 #[.slice none 0 0, .slice none 0 0] 40 ?_; intro gb735 hg w34 hbox hb; replace HO709 := rB HO709 hb; replace HO712 := rB HO712 hb; replace HO715 := rB HO715 hb; replace HO718 := rB HO718 hb; replace HO723 := rB HO723 hb; replace HO726 := rB HO726 hb; replace HO730 := rB HO730 hb; replace HO733 := rB HO733 hb; have BK735 := Aside0.mk (hbox); have GW735 := gS HB hg; have GE735 := gS HB hg; replace HB := bS HB hb; have NB705_735 := nL BK705 hg; have NB735_705 := nG BK705 hg; replace BK705 := kB BK705 hb; have NB720_735 := nL BK720 hg; have NB735_720 := nG BK720 hg; replace BK720 := kB BK720 hb; have NB727_735 := nL BK727 hg; have NB735_727 := nG BK727 hg; replace BK727 := kB BK727 hb; clear hb hbox hg; obtain ⟨Ao35, co35, eo35⟩ := Kd.R_slice HO730.out; subst eo35; have hnb36 := NB735_705.out; have hnc36 := NB705_735.out; have hnb37 := NB735_720.out; have hnc37 := NB720_735.out; have hnb38 := NB735_727.out; have hnc38 := NB727_735.out; have hcz39_0 := zc0 BK735; have hcz39_1 := zc1 BK735; have hfz39_0 := blk_frozen BK735.out 0; have hfz39_1 := blk_frozen BK735.out 1; obtain ⟨Ao40, co40, eo40⟩ := Kd.R_slice HO733.out; subst eo40))
  (try simp only [Act.put, List.setIfInBounds_toArray, List.set_cons_zero, List.set_cons_succ])
  go_cut [40] (fun v40 wc => ∃ (kq : Nat) (x40_10 : Bool), v40 = .bool x40_10 ∧ Aside0 (laws_FnExactMapLeast.j0 kq t719 t734 x40_10 l0_0 l0_1 t713 t716 t721 t724 t728 t731 = some r) ∧ Aside0 (kq ≤ k) ∧ Aside0 (Kd.R (Kd.int .i64) 3 wc w.heap.size (fun k_ => some k_ ≠ ((.slice Ao24 t716.length co24) : Value).ownBlock ∧ some k_ ≠ ((.slice Ao28 t721.length co28) : Value).ownBlock ∧ some k_ ≠ ((.slice Ao32 t724.length co32) : Value).ownBlock ∧ some k_ ≠ ((.slice Ao35 t728.length co35) : Value).ownBlock ∧ some k_ ≠ ((.slice Ao40 t731.length co40) : Value).ownBlock) (.slice Ao21 t713.length co21) t713) ∧ Aside0 (Kd.R (Kd.int .i64) 3 wc w.heap.size (fun k_ => some k_ ≠ ((.slice Ao21 t713.length co21) : Value).ownBlock ∧ some k_ ≠ ((.slice Ao28 t721.length co28) : Value).ownBlock ∧ some k_ ≠ ((.slice Ao32 t724.length co32) : Value).ownBlock ∧ some k_ ≠ ((.slice Ao35 t728.length co35) : Value).ownBlock ∧ some k_ ≠ ((.slice Ao40 t731.length co40) : Value).ownBlock) (.slice Ao24 t716.length co24) t716) ∧ Aside0 (Kd.R (Kd.int .i64) 3 wc w.heap.size (fun k_ => some k_ ≠ ((.slice Ao21 t713.length co21) : Value).ownBlock ∧ some k_ ≠ ((.slice Ao24 t716.length co24) : Value).ownBlock ∧ some k_ ≠ ((.slice Ao32 t724.length co32) : Value).ownBlock ∧ some k_ ≠ ((.slice Ao35 t728.length co35) : Value).ownBlock ∧ some k_ ≠ ((.slice Ao40 t731.length co40) : Value).ownBlock) (.slice Ao28 t721.length co28) t721) ∧ Aside0 (Kd.R (Kd.int .i64) 3 wc w.heap.size (fun k_ => some k_ ≠ ((.slice Ao21 t713.length co21) : Value).ownBlock ∧ some k_ ≠ ((.slice Ao24 t716.length co24) : Value).ownBlock ∧ some k_ ≠ ((.slice Ao28 t721.length co28) : Value).ownBlock ∧ some k_ ≠ ((.slice Ao35 t728.length co35) : Value).ownBlock ∧ some k_ ≠ ((.slice Ao40 t731.length co40) : Value).ownBlock) (.slice Ao32 t724.length co32) t724) ∧ Aside0 (Kd.R (Kd.int .i64) 3 wc w.heap.size (fun k_ => some k_ ≠ ((.slice Ao21 t713.length co21) : Value).ownBlock ∧ some k_ ≠ ((.slice Ao24 t716.length co24) : Value).ownBlock ∧ some k_ ≠ ((.slice Ao28 t721.length co28) : Value).ownBlock ∧ some k_ ≠ ((.slice Ao32 t724.length co32) : Value).ownBlock ∧ some k_ ≠ ((.slice Ao40 t731.length co40) : Value).ownBlock) (.slice Ao35 t728.length co35) t728) ∧ Aside0 (Kd.R (Kd.int .i64) 3 wc w.heap.size (fun k_ => some k_ ≠ ((.slice Ao21 t713.length co21) : Value).ownBlock ∧ some k_ ≠ ((.slice Ao24 t716.length co24) : Value).ownBlock ∧ some k_ ≠ ((.slice Ao28 t721.length co28) : Value).ownBlock ∧ some k_ ≠ ((.slice Ao32 t724.length co32) : Value).ownBlock ∧ some k_ ≠ ((.slice Ao35 t728.length co35) : Value).ownBlock) (.slice Ao40 t731.length co40) t731) ∧ Aside0 (wc.heap[gb705]? = some (.cells #[(.slice A0_0 l0_0.length c0_0), (.slice A0_1 l0_1.length c0_1)] 37 (0, 0))) ∧ Aside0 (wc.heap[gb720]? = some (.cells #[(.slice Ao21 t713.length co21), (.slice Ao24 t716.length co24)] 40 (0, 0))) ∧ Aside0 (wc.heap[gb727]? = some (.cells #[(.slice Ao28 t721.length co28), (.slice Ao32 t724.length co32)] 40 (0, 0))) ∧ Aside0 (wc.heap[gb735]? = some (.cells #[(.slice Ao35 t728.length co35), (.slice Ao40 t731.length co40)] 40 (0, 0))) ∧ Aside0 (Below w.heap.size w wc))
  case first =>
   have H := HC11.out
   clear HC11
   replace H := Option.bind_eq_some_iff.mp H
   obtain ⟨t736, A410, H⟩ := H
   replace H : (if t736 = true then (laws_FnExactMapLeast.j0 k t719 t734 (t734 != t719) l0_0 l0_1 t713 t716 t721 t724 t728 t731) else (laws_FnExactMapLeast.j0 k t719 t734 true l0_0 l0_1 t713 t716 t721 t724 t728 t731)) = some r := H
   have A41 := Aside0.mk A410
   clear A410
   by_cases c42 : t736 = true
   ·subst c42
    have H1 : (laws_FnExactMapLeast.j0 k t719 t734 (t734 != t719) l0_0 l0_1 t713 t716 t721 t724 t728 t731) = some r := by rw [if_pos rfl] at H; exact H
    clear H
    have H := H1
    clear H1
    have H' := Aside0.mk H
    clear H
    have hnb43 := NB735_705.out
    have hnc43 := NB705_735.out
    have hnb44 := NB735_720.out
    have hnc44 := NB720_735.out
    have hnb45 := NB735_727.out
    have hnc45 := NB727_735.out
    have hcz46_0 := zc0 BK735
    have hcz46_1 := zc1 BK735
    have hfz46_0 := blk_frozen BK735.out 0
    have hfz46_1 := blk_frozen BK735.out 1
    have hnb47 := NB720_705.out
    have hnc47 := NB705_720.out
    have hnb48 := NB720_727.out
    have hnc48 := NB727_720.out
    have hcz49_0 := zc0 BK720
    have hcz49_1 := zc1 BK720
    have hfz49_0 := blk_frozen BK720.out 0
    have hfz49_1 := blk_frozen BK720.out 1
    go_wp2_with (first | ((with_reducible refine gate_callee (f := 23) rfl ?_); refine gL (some 34) Try.func23 #[.agg #[.slice Ao35 t728.length co35, .slice Ao40 t731.length co40], .agg #[.slice Ao21 t713.length co21, .slice Ao24 t716.length co24]] ?_; (with_reducible refine (laws_eqMap.calls k _ _ t728 _ _ t731 _ _ t713 _ _ t716 true _ ?side1 ?side2 ?side3 ?side4 ?side5 ?side6 ?side7 ?side8 A41.out).mono ?_); (case side1 => refine (Kd.R_reads' (e := 3) (base := w.heap.size) (ok := fun k_ => ((((((some k_ ≠ (.slice Ao40 t731.length co40 : Value).ownBlock ∧ some k_ ≠ (.slice Ao17 t707.length co17 : Value).ownBlock) ∧ some k_ ≠ (.slice Ao18 t710.length co18 : Value).ownBlock) ∧ some k_ ≠ (.slice Ao21 t713.length co21 : Value).ownBlock) ∧ some k_ ≠ (.slice Ao24 t716.length co24 : Value).ownBlock) ∧ some k_ ≠ (.slice Ao28 t721.length co28 : Value).ownBlock) ∧ some k_ ≠ (.slice Ao32 t724.length co32 : Value).ownBlock)) (n := t728.length) (c := co35) ?_).2.2; exact (rT (Kd.R_mono (Kd.R_far (p := ⟨gb735, 1, none⟩) (Kd.R_far (p := ⟨gb735, 0, none⟩) (Kd.R_types HO730.out BK735.out (by decide)) (fun _ hk => hk.2) (.slice Ao35 t728.length co35)) (fun _ hk => hk.2) (.slice Ao40 t731.length co40)) (fun _ h_ => h_.1)))); (case side2 => exact (Kd.R_reads' HO730.out).2.1); (case side3 => refine (Kd.R_reads' (e := 3) (base := w.heap.size) (ok := fun k_ => ((((((some k_ ≠ (.slice Ao35 t728.length co35 : Value).ownBlock ∧ some k_ ≠ (.slice Ao17 t707.length co17 : Value).ownBlock) ∧ some k_ ≠ (.slice Ao18 t710.length co18 : Value).ownBlock) ∧ some k_ ≠ (.slice Ao21 t713.length co21 : Value).ownBlock) ∧ some k_ ≠ (.slice Ao24 t716.length co24 : Value).ownBlock) ∧ some k_ ≠ (.slice Ao28 t721.length co28 : Value).ownBlock) ∧ some k_ ≠ (.slice Ao32 t724.length co32 : Value).ownBlock)) (n := t731.length) (c := co40) ?_).2.2; exact (rT (Kd.R_mono (Kd.R_far (p := ⟨gb735, 1, none⟩) (Kd.R_far (p := ⟨gb735, 0, none⟩) (Kd.R_types HO733.out BK735.out (by decide)) (fun _ hk => hk.2) (.slice Ao35 t728.length co35)) (fun _ hk => hk.2) (.slice Ao40 t731.length co40)) (fun _ h_ => h_.1)))); (case side4 => exact (Kd.R_reads' HO733.out).2.1); (case side5 => refine (Kd.R_reads' (e := 3) (base := w.heap.size) (ok := fun k_ => ((((((some k_ ≠ (.slice Ao24 t716.length co24 : Value).ownBlock ∧ some k_ ≠ (.slice Ao17 t707.length co17 : Value).ownBlock) ∧ some k_ ≠ (.slice Ao18 t710.length co18 : Value).ownBlock) ∧ some k_ ≠ (.slice Ao28 t721.length co28 : Value).ownBlock) ∧ some k_ ≠ (.slice Ao32 t724.length co32 : Value).ownBlock) ∧ some k_ ≠ (.slice Ao35 t728.length co35 : Value).ownBlock) ∧ some k_ ≠ (.slice Ao40 t731.length co40 : Value).ownBlock)) (n := t713.length) (c := co21) ?_).2.2; exact (rT (Kd.R_mono (Kd.R_far (p := ⟨gb735, 1, none⟩) (Kd.R_far (p := ⟨gb735, 0, none⟩) (Kd.R_types HO715.out BK735.out (by decide)) (fun _ hk => hk.2) (.slice Ao35 t728.length co35)) (fun _ hk => hk.2) (.slice Ao40 t731.length co40)) (fun _ h_ => h_.1)))); (case side6 => exact (Kd.R_reads' HO715.out).2.1); (case side7 => refine (Kd.R_reads' (e := 3) (base := w.heap.size) (ok := fun k_ => ((((((some k_ ≠ (.slice Ao21 t713.length co21 : Value).ownBlock ∧ some k_ ≠ (.slice Ao17 t707.length co17 : Value).ownBlock) ∧ some k_ ≠ (.slice Ao18 t710.length co18 : Value).ownBlock) ∧ some k_ ≠ (.slice Ao28 t721.length co28 : Value).ownBlock) ∧ some k_ ≠ (.slice Ao32 t724.length co32 : Value).ownBlock) ∧ some k_ ≠ (.slice Ao35 t728.length co35 : Value).ownBlock) ∧ some k_ ≠ (.slice Ao40 t731.length co40 : Value).ownBlock)) (n := t716.length) (c := co24) ?_).2.2; exact (rT (Kd.R_mono (Kd.R_far (p := ⟨gb735, 1, none⟩) (Kd.R_far (p := ⟨gb735, 0, none⟩) (Kd.R_types HO718.out BK735.out (by decide)) (fun _ hk => hk.2) (.slice Ao35 t728.length co35)) (fun _ hk => hk.2) (.slice Ao40 t731.length co40)) (fun _ h_ => h_.1)))); (case side8 => exact (Kd.R_reads' HO718.out).2.1); rintro e w50 ⟨rfl, hb⟩; refine ⟨_, rfl, ?_⟩; replace HO709 := Aside0.mk (Kd.R_below (rT (Kd.R_mono (Kd.R_far (p := ⟨gb735, 1, none⟩) (Kd.R_far (p := ⟨gb735, 0, none⟩) (Kd.R_types HO709.out BK735.out (by decide)) (fun _ hk => hk.2) (.slice Ao35 t728.length co35)) (fun _ hk => hk.2) (.slice Ao40 t731.length co40)) (fun _ h_ => h_.1))) hb); replace HO712 := Aside0.mk (Kd.R_below (rT (Kd.R_mono (Kd.R_far (p := ⟨gb735, 1, none⟩) (Kd.R_far (p := ⟨gb735, 0, none⟩) (Kd.R_types HO712.out BK735.out (by decide)) (fun _ hk => hk.2) (.slice Ao35 t728.length co35)) (fun _ hk => hk.2) (.slice Ao40 t731.length co40)) (fun _ h_ => h_.1))) hb); replace HO715 := Aside0.mk (Kd.R_below (rT (Kd.R_mono (Kd.R_far (p := ⟨gb735, 1, none⟩) (Kd.R_far (p := ⟨gb735, 0, none⟩) (Kd.R_types HO715.out BK735.out (by decide)) (fun _ hk => hk.2) (.slice Ao35 t728.length co35)) (fun _ hk => hk.2) (.slice Ao40 t731.length co40)) (fun _ h_ => h_.1))) hb); replace HO718 := Aside0.mk (Kd.R_below (rT (Kd.R_mono (Kd.R_far (p := ⟨gb735, 1, none⟩) (Kd.R_far (p := ⟨gb735, 0, none⟩) (Kd.R_types HO718.out BK735.out (by decide)) (fun _ hk => hk.2) (.slice Ao35 t728.length co35)) (fun _ hk => hk.2) (.slice Ao40 t731.length co40)) (fun _ h_ => h_.1))) hb); replace HO723 := Aside0.mk (Kd.R_below (rT (Kd.R_mono (Kd.R_far (p := ⟨gb735, 1, none⟩) (Kd.R_far (p := ⟨gb735, 0, none⟩) (Kd.R_types HO723.out BK735.out (by decide)) (fun _ hk => hk.2) (.slice Ao35 t728.length co35)) (fun _ hk => hk.2) (.slice Ao40 t731.length co40)) (fun _ h_ => h_.1))) hb); replace HO726 := Aside0.mk (Kd.R_below (rT (Kd.R_mono (Kd.R_far (p := ⟨gb735, 1, none⟩) (Kd.R_far (p := ⟨gb735, 0, none⟩) (Kd.R_types HO726.out BK735.out (by decide)) (fun _ hk => hk.2) (.slice Ao35 t728.length co35)) (fun _ hk => hk.2) (.slice Ao40 t731.length co40)) (fun _ h_ => h_.1))) hb); replace HO730 := Aside0.mk (Kd.R_below (rT (Kd.R_mono (Kd.R_far (p := ⟨gb735, 1, none⟩) (Kd.R_far (p := ⟨gb735, 0, none⟩) (Kd.R_types HO730.out BK735.out (by decide)) (fun _ hk => hk.2) (.slice Ao35 t728.length co35)) (fun _ hk => hk.2) (.slice Ao40 t731.length co40)) (fun _ h_ => h_.1))) hb); replace HO733 := Aside0.mk (Kd.R_below (rT (Kd.R_mono (Kd.R_far (p := ⟨gb735, 1, none⟩) (Kd.R_far (p := ⟨gb735, 0, none⟩) (Kd.R_types HO733.out BK735.out (by decide)) (fun _ hk => hk.2) (.slice Ao35 t728.length co35)) (fun _ hk => hk.2) (.slice Ao40 t731.length co40)) (fun _ h_ => h_.1))) hb); replace BK705 := kG BK705 hb; replace BK720 := kG BK720 hb; replace BK727 := kG BK727 hb; replace BK735 := Aside0.mk (blk_below (g := gb735) (o := .cells #[.slice Ao35 t728.length co35, .slice Ao40 t731.length co40] 40 (0, 0)) (by (with_reducible repeat (first | refine blk_drewN ?_ _ | refine blk_drew ?_ | refine blk_alloc ?_ _)); refine blk_put (cs := #[.slice Ao35 t728.length co35, .slice none 0 0]) ?_ 1 _ rfl; (with_reducible repeat (first | refine blk_drewN ?_ _ | refine blk_drew ?_ | refine blk_alloc ?_ _)); refine blk_put (cs := #[.slice none 0 0, .slice none 0 0]) ?_ 0 _ rfl; (with_reducible repeat (first | refine blk_drewN ?_ _ | refine blk_drew ?_ | refine blk_alloc ?_ _)); exact BK735.out) hb); replace HB := bS HB hb; (try clear hb); (try clear hb2); (try clear hk); (try clear hi)))
    go_meet
    case rel => exact ⟨_, ((t734 != t719)), eS, H', ⟨by first | omega | exact Nat.le_refl _⟩, ⟨by (with_reducible repeat (first | apply Kd.R_alloc | apply Kd.R_drewN | apply Kd.R_drew)); exact Kd.R_mono HO715.out (fun _ hk => ⟨hk.1.1.1.1.1.1, ⟨hk.1.1.1.2, ⟨hk.1.1.2, ⟨hk.1.2, hk.2⟩⟩⟩⟩)⟩, ⟨by (with_reducible repeat (first | apply Kd.R_alloc | apply Kd.R_drewN | apply Kd.R_drew)); exact Kd.R_mono HO718.out (fun _ hk => ⟨hk.1.1.1.1.1.1, ⟨hk.1.1.1.2, ⟨hk.1.1.2, ⟨hk.1.2, hk.2⟩⟩⟩⟩)⟩, ⟨by (with_reducible repeat (first | apply Kd.R_alloc | apply Kd.R_drewN | apply Kd.R_drew)); exact Kd.R_mono HO723.out (fun _ hk => ⟨hk.1.1.1.2, ⟨hk.1.1.2, ⟨hk.1.1.1.1.1.1, ⟨hk.1.2, hk.2⟩⟩⟩⟩)⟩, ⟨by (with_reducible repeat (first | apply Kd.R_alloc | apply Kd.R_drewN | apply Kd.R_drew)); exact Kd.R_mono HO726.out (fun _ hk => ⟨hk.1.1.1.2, ⟨hk.1.1.2, ⟨hk.1.1.1.1.1.1, ⟨hk.1.2, hk.2⟩⟩⟩⟩)⟩, ⟨by (with_reducible repeat (first | apply Kd.R_alloc | apply Kd.R_drewN | apply Kd.R_drew)); exact Kd.R_mono HO730.out (fun _ hk => ⟨hk.1.1.1.2, ⟨hk.1.1.2, ⟨hk.1.2, ⟨hk.2, hk.1.1.1.1.1.1⟩⟩⟩⟩)⟩, ⟨by (with_reducible repeat (first | apply Kd.R_alloc | apply Kd.R_drewN | apply Kd.R_drew)); exact Kd.R_mono HO733.out (fun _ hk => ⟨hk.1.1.1.2, ⟨hk.1.1.2, ⟨hk.1.2, ⟨hk.2, hk.1.1.1.1.1.1⟩⟩⟩⟩)⟩, ⟨kP BK705⟩, ⟨kP BK720⟩, ⟨kP BK727⟩, ⟨kP BK735⟩, ⟨bP HB⟩⟩
   ·replace c42 := Bool.eq_false_iff.mpr c42
    subst c42
    have H1 : (laws_FnExactMapLeast.j0 k t719 t734 true l0_0 l0_1 t713 t716 t721 t724 t728 t731) = some r := by rw [if_neg (show ¬ (false = true) by decide)] at H; exact H
    clear H
    have H := H1
    clear H1
    have H' := Aside0.mk H
    clear H
    have hnb51 := NB735_705.out
    have hnc51 := NB705_735.out
    have hnb52 := NB735_720.out
    have hnc52 := NB720_735.out
    have hnb53 := NB735_727.out
    have hnc53 := NB727_735.out
    have hcz54_0 := zc0 BK735
    have hcz54_1 := zc1 BK735
    have hfz54_0 := blk_frozen BK735.out 0
    have hfz54_1 := blk_frozen BK735.out 1
    have hnb55 := NB720_705.out
    have hnc55 := NB705_720.out
    have hnb56 := NB720_727.out
    have hnc56 := NB727_720.out
    have hcz57_0 := zc0 BK720
    have hcz57_1 := zc1 BK720
    have hfz57_0 := blk_frozen BK720.out 0
    have hfz57_1 := blk_frozen BK720.out 1
    go_wp2_with (first | ((with_reducible refine gate_callee (f := 23) rfl ?_); refine gL (some 34) Try.func23 #[.agg #[.slice Ao35 t728.length co35, .slice Ao40 t731.length co40], .agg #[.slice Ao21 t713.length co21, .slice Ao24 t716.length co24]] ?_; (with_reducible refine (laws_eqMap.calls k _ _ t728 _ _ t731 _ _ t713 _ _ t716 false _ ?side1 ?side2 ?side3 ?side4 ?side5 ?side6 ?side7 ?side8 A41.out).mono ?_); (case side1 => refine (Kd.R_reads' (e := 3) (base := w.heap.size) (ok := fun k_ => ((((((some k_ ≠ (.slice Ao40 t731.length co40 : Value).ownBlock ∧ some k_ ≠ (.slice Ao17 t707.length co17 : Value).ownBlock) ∧ some k_ ≠ (.slice Ao18 t710.length co18 : Value).ownBlock) ∧ some k_ ≠ (.slice Ao21 t713.length co21 : Value).ownBlock) ∧ some k_ ≠ (.slice Ao24 t716.length co24 : Value).ownBlock) ∧ some k_ ≠ (.slice Ao28 t721.length co28 : Value).ownBlock) ∧ some k_ ≠ (.slice Ao32 t724.length co32 : Value).ownBlock)) (n := t728.length) (c := co35) ?_).2.2; exact (rT (Kd.R_mono (Kd.R_far (p := ⟨gb735, 1, none⟩) (Kd.R_far (p := ⟨gb735, 0, none⟩) (Kd.R_types HO730.out BK735.out (by decide)) (fun _ hk => hk.2) (.slice Ao35 t728.length co35)) (fun _ hk => hk.2) (.slice Ao40 t731.length co40)) (fun _ h_ => h_.1)))); (case side2 => exact (Kd.R_reads' HO730.out).2.1); (case side3 => refine (Kd.R_reads' (e := 3) (base := w.heap.size) (ok := fun k_ => ((((((some k_ ≠ (.slice Ao35 t728.length co35 : Value).ownBlock ∧ some k_ ≠ (.slice Ao17 t707.length co17 : Value).ownBlock) ∧ some k_ ≠ (.slice Ao18 t710.length co18 : Value).ownBlock) ∧ some k_ ≠ (.slice Ao21 t713.length co21 : Value).ownBlock) ∧ some k_ ≠ (.slice Ao24 t716.length co24 : Value).ownBlock) ∧ some k_ ≠ (.slice Ao28 t721.length co28 : Value).ownBlock) ∧ some k_ ≠ (.slice Ao32 t724.length co32 : Value).ownBlock)) (n := t731.length) (c := co40) ?_).2.2; exact (rT (Kd.R_mono (Kd.R_far (p := ⟨gb735, 1, none⟩) (Kd.R_far (p := ⟨gb735, 0, none⟩) (Kd.R_types HO733.out BK735.out (by decide)) (fun _ hk => hk.2) (.slice Ao35 t728.length co35)) (fun _ hk => hk.2) (.slice Ao40 t731.length co40)) (fun _ h_ => h_.1)))); (case side4 => exact (Kd.R_reads' HO733.out).2.1); (case side5 => refine (Kd.R_reads' (e := 3) (base := w.heap.size) (ok := fun k_ => ((((((some k_ ≠ (.slice Ao24 t716.length co24 : Value).ownBlock ∧ some k_ ≠ (.slice Ao17 t707.length co17 : Value).ownBlock) ∧ some k_ ≠ (.slice Ao18 t710.length co18 : Value).ownBlock) ∧ some k_ ≠ (.slice Ao28 t721.length co28 : Value).ownBlock) ∧ some k_ ≠ (.slice Ao32 t724.length co32 : Value).ownBlock) ∧ some k_ ≠ (.slice Ao35 t728.length co35 : Value).ownBlock) ∧ some k_ ≠ (.slice Ao40 t731.length co40 : Value).ownBlock)) (n := t713.length) (c := co21) ?_).2.2; exact (rT (Kd.R_mono (Kd.R_far (p := ⟨gb735, 1, none⟩) (Kd.R_far (p := ⟨gb735, 0, none⟩) (Kd.R_types HO715.out BK735.out (by decide)) (fun _ hk => hk.2) (.slice Ao35 t728.length co35)) (fun _ hk => hk.2) (.slice Ao40 t731.length co40)) (fun _ h_ => h_.1)))); (case side6 => exact (Kd.R_reads' HO715.out).2.1); (case side7 => refine (Kd.R_reads' (e := 3) (base := w.heap.size) (ok := fun k_ => ((((((some k_ ≠ (.slice Ao21 t713.length co21 : Value).ownBlock ∧ some k_ ≠ (.slice Ao17 t707.length co17 : Value).ownBlock) ∧ some k_ ≠ (.slice Ao18 t710.length co18 : Value).ownBlock) ∧ some k_ ≠ (.slice Ao28 t721.length co28 : Value).ownBlock) ∧ some k_ ≠ (.slice Ao32 t724.length co32 : Value).ownBlock) ∧ some k_ ≠ (.slice Ao35 t728.length co35 : Value).ownBlock) ∧ some k_ ≠ (.slice Ao40 t731.length co40 : Value).ownBlock)) (n := t716.length) (c := co24) ?_).2.2; exact (rT (Kd.R_mono (Kd.R_far (p := ⟨gb735, 1, none⟩) (Kd.R_far (p := ⟨gb735, 0, none⟩) (Kd.R_types HO718.out BK735.out (by decide)) (fun _ hk => hk.2) (.slice Ao35 t728.length co35)) (fun _ hk => hk.2) (.slice Ao40 t731.length co40)) (fun _ h_ => h_.1)))); (case side8 => exact (Kd.R_reads' HO718.out).2.1); rintro e w58 ⟨rfl, hb⟩; refine ⟨_, rfl, ?_⟩; replace HO709 := Aside0.mk (Kd.R_below (rT (Kd.R_mono (Kd.R_far (p := ⟨gb735, 1, none⟩) (Kd.R_far (p := ⟨gb735, 0, none⟩) (Kd.R_types HO709.out BK735.out (by decide)) (fun _ hk => hk.2) (.slice Ao35 t728.length co35)) (fun _ hk => hk.2) (.slice Ao40 t731.length co40)) (fun _ h_ => h_.1))) hb); replace HO712 := Aside0.mk (Kd.R_below (rT (Kd.R_mono (Kd.R_far (p := ⟨gb735, 1, none⟩) (Kd.R_far (p := ⟨gb735, 0, none⟩) (Kd.R_types HO712.out BK735.out (by decide)) (fun _ hk => hk.2) (.slice Ao35 t728.length co35)) (fun _ hk => hk.2) (.slice Ao40 t731.length co40)) (fun _ h_ => h_.1))) hb); replace HO715 := Aside0.mk (Kd.R_below (rT (Kd.R_mono (Kd.R_far (p := ⟨gb735, 1, none⟩) (Kd.R_far (p := ⟨gb735, 0, none⟩) (Kd.R_types HO715.out BK735.out (by decide)) (fun _ hk => hk.2) (.slice Ao35 t728.length co35)) (fun _ hk => hk.2) (.slice Ao40 t731.length co40)) (fun _ h_ => h_.1))) hb); replace HO718 := Aside0.mk (Kd.R_below (rT (Kd.R_mono (Kd.R_far (p := ⟨gb735, 1, none⟩) (Kd.R_far (p := ⟨gb735, 0, none⟩) (Kd.R_types HO718.out BK735.out (by decide)) (fun _ hk => hk.2) (.slice Ao35 t728.length co35)) (fun _ hk => hk.2) (.slice Ao40 t731.length co40)) (fun _ h_ => h_.1))) hb); replace HO723 := Aside0.mk (Kd.R_below (rT (Kd.R_mono (Kd.R_far (p := ⟨gb735, 1, none⟩) (Kd.R_far (p := ⟨gb735, 0, none⟩) (Kd.R_types HO723.out BK735.out (by decide)) (fun _ hk => hk.2) (.slice Ao35 t728.length co35)) (fun _ hk => hk.2) (.slice Ao40 t731.length co40)) (fun _ h_ => h_.1))) hb); replace HO726 := Aside0.mk (Kd.R_below (rT (Kd.R_mono (Kd.R_far (p := ⟨gb735, 1, none⟩) (Kd.R_far (p := ⟨gb735, 0, none⟩) (Kd.R_types HO726.out BK735.out (by decide)) (fun _ hk => hk.2) (.slice Ao35 t728.length co35)) (fun _ hk => hk.2) (.slice Ao40 t731.length co40)) (fun _ h_ => h_.1))) hb); replace HO730 := Aside0.mk (Kd.R_below (rT (Kd.R_mono (Kd.R_far (p := ⟨gb735, 1, none⟩) (Kd.R_far (p := ⟨gb735, 0, none⟩) (Kd.R_types HO730.out BK735.out (by decide)) (fun _ hk => hk.2) (.slice Ao35 t728.length co35)) (fun _ hk => hk.2) (.slice Ao40 t731.length co40)) (fun _ h_ => h_.1))) hb); replace HO733 := Aside0.mk (Kd.R_below (rT (Kd.R_mono (Kd.R_far (p := ⟨gb735, 1, none⟩) (Kd.R_far (p := ⟨gb735, 0, none⟩) (Kd.R_types HO733.out BK735.out (by decide)) (fun _ hk => hk.2) (.slice Ao35 t728.length co35)) (fun _ hk => hk.2) (.slice Ao40 t731.length co40)) (fun _ h_ => h_.1))) hb); replace BK705 := kG BK705 hb; replace BK720 := kG BK720 hb; replace BK727 := kG BK727 hb; replace BK735 := Aside0.mk (blk_below (g := gb735) (o := .cells #[.slice Ao35 t728.length co35, .slice Ao40 t731.length co40] 40 (0, 0)) (by (with_reducible repeat (first | refine blk_drewN ?_ _ | refine blk_drew ?_ | refine blk_alloc ?_ _)); refine blk_put (cs := #[.slice Ao35 t728.length co35, .slice none 0 0]) ?_ 1 _ rfl; (with_reducible repeat (first | refine blk_drewN ?_ _ | refine blk_drew ?_ | refine blk_alloc ?_ _)); refine blk_put (cs := #[.slice none 0 0, .slice none 0 0]) ?_ 0 _ rfl; (with_reducible repeat (first | refine blk_drewN ?_ _ | refine blk_drew ?_ | refine blk_alloc ?_ _)); exact BK735.out) hb); replace HB := bS HB hb; (try clear hb); (try clear hb2); (try clear hk); (try clear hi)))
    go_meet
    case rel => exact ⟨_, (true), eS, H', ⟨by first | omega | exact Nat.le_refl _⟩, ⟨by (with_reducible repeat (first | apply Kd.R_alloc | apply Kd.R_drewN | apply Kd.R_drew)); exact Kd.R_mono HO715.out (fun _ hk => ⟨hk.1.1.1.1.1.1, ⟨hk.1.1.1.2, ⟨hk.1.1.2, ⟨hk.1.2, hk.2⟩⟩⟩⟩)⟩, ⟨by (with_reducible repeat (first | apply Kd.R_alloc | apply Kd.R_drewN | apply Kd.R_drew)); exact Kd.R_mono HO718.out (fun _ hk => ⟨hk.1.1.1.1.1.1, ⟨hk.1.1.1.2, ⟨hk.1.1.2, ⟨hk.1.2, hk.2⟩⟩⟩⟩)⟩, ⟨by (with_reducible repeat (first | apply Kd.R_alloc | apply Kd.R_drewN | apply Kd.R_drew)); exact Kd.R_mono HO723.out (fun _ hk => ⟨hk.1.1.1.2, ⟨hk.1.1.2, ⟨hk.1.1.1.1.1.1, ⟨hk.1.2, hk.2⟩⟩⟩⟩)⟩, ⟨by (with_reducible repeat (first | apply Kd.R_alloc | apply Kd.R_drewN | apply Kd.R_drew)); exact Kd.R_mono HO726.out (fun _ hk => ⟨hk.1.1.1.2, ⟨hk.1.1.2, ⟨hk.1.1.1.1.1.1, ⟨hk.1.2, hk.2⟩⟩⟩⟩)⟩, ⟨by (with_reducible repeat (first | apply Kd.R_alloc | apply Kd.R_drewN | apply Kd.R_drew)); exact Kd.R_mono HO730.out (fun _ hk => ⟨hk.1.1.1.2, ⟨hk.1.1.2, ⟨hk.1.2, ⟨hk.2, hk.1.1.1.1.1.1⟩⟩⟩⟩)⟩, ⟨by (with_reducible repeat (first | apply Kd.R_alloc | apply Kd.R_drewN | apply Kd.R_drew)); exact Kd.R_mono HO733.out (fun _ hk => ⟨hk.1.1.1.2, ⟨hk.1.1.2, ⟨hk.1.2, ⟨hk.2, hk.1.1.1.1.1.1⟩⟩⟩⟩)⟩, ⟨kP BK705⟩, ⟨kP BK720⟩, ⟨kP BK727⟩, ⟨kP BK735⟩, ⟨bP HB⟩⟩
  case rest =>
   clear HC11
   try clear c1
   try clear c2
   try clear p2
   try clear c3
   try clear c3b0
   try clear c4
   try clear c5
   try clear c7
   try clear c19
   try clear c21
   try clear c22
   try clear c23
   try clear c28
   try clear c29
   try clear c30
   try clear c36
   try clear c37
   try clear c38
   try clear c42
   try clear c43
   try clear c44
   try clear c45
   try clear c47
   try clear c48
   try clear c51
   try clear c52
   try clear c53
   try clear c55
   try clear c56
   try clear hcz13_0
   try clear hcz13_1
   try clear hcz15_0
   try clear hcz15_1
   try clear hcz23_0
   try clear hcz23_1
   try clear hcz25_0
   try clear hcz25_1
   try clear hcz31_0
   try clear hcz31_1
   try clear hcz39_0
   try clear hcz39_1
   try clear hcz46_0
   try clear hcz46_1
   try clear hcz49_0
   try clear hcz49_1
   try clear hcz54_0
   try clear hcz54_1
   try clear hcz57_0
   try clear hcz57_1
   try clear hcz5_0
   try clear hcz5_1
   try clear hfz13_0
   try clear hfz13_1
   try clear hfz15_0
   try clear hfz15_1
   try clear hfz23_0
   try clear hfz23_1
   try clear hfz25_0
   try clear hfz25_1
   try clear hfz31_0
   try clear hfz31_1
   try clear hfz39_0
   try clear hfz39_1
   try clear hfz46_0
   try clear hfz46_1
   try clear hfz49_0
   try clear hfz49_1
   try clear hfz54_0
   try clear hfz54_1
   try clear hfz57_0
   try clear hfz57_1
   try clear hfz5_0
   try clear hfz5_1
   obtain ⟨kq, x40_10, rfl, HA, HJ10, HO_721000, HO_721001, HO_728000, HO_728001, HO_736000, HO_736001, BK705, BK720, BK727, BK735, HB⟩ := hcut
   cases kq with
   | zero => exact absurd HA.out (by simp [laws_FnExactMapLeast.j0])
   | succ kj10 =>
    have H := HA.out
    clear HA
    simp only [laws_FnExactMapLeast.j0] at H
    by_cases c59 : x40_10 = true
    ·subst c59
     have H1 : (some false) = some r := by rw [if_pos rfl] at H; exact H
     clear H
     have H := H1
     clear H1
     exact absurd ((Option.some.inj H).trans hr_.out) (by decide)
    ·replace c59 := Bool.eq_false_iff.mpr c59
     subst c59
     have H1 : ((laws_toMap.f kj10 l0_0 l0_1).bind fun bt737 => ((laws_eqMap.f kj10 t721 t724 bt737.1 bt737.2).bind fun t743 => (if t743 = true then ((laws_markMap.f kj10 t721 t724 1).bind fun bt744 => (if bt744.1 < 0 then (laws_FnExactMapLeast.j1 kj10 t719 true l0_0 l0_1 t713 t716 t728 t731) else ((laws_eqMap.f kj10 t728 t731 t713 t716).bind fun t747 => (if t747 = true then (laws_FnExactMapLeast.j1 kj10 t719 (t734 != t719) l0_0 l0_1 t713 t716 t728 t731) else (laws_FnExactMapLeast.j1 kj10 t719 true l0_0 l0_1 t713 t716 t728 t731))))) else (some false)))) = some r := by rw [if_neg (show ¬ (false = true) by decide)] at H; exact H
     clear H
     have H := H1
     clear H1
     replace H := Option.bind_eq_some_iff.mp H
     obtain ⟨⟨t737, t740⟩, A600, H⟩ := H
     replace H : ((laws_eqMap.f kj10 t721 t724 t737 t740).bind fun t743 => (if t743 = true then ((laws_markMap.f kj10 t721 t724 1).bind fun bt744 => (if bt744.1 < 0 then (laws_FnExactMapLeast.j1 kj10 t719 true l0_0 l0_1 t713 t716 t728 t731) else ((laws_eqMap.f kj10 t728 t731 t713 t716).bind fun t747 => (if t747 = true then (laws_FnExactMapLeast.j1 kj10 t719 (t734 != t719) l0_0 l0_1 t713 t716 t728 t731) else (laws_FnExactMapLeast.j1 kj10 t719 true l0_0 l0_1 t713 t716 t728 t731))))) else (some false))) = some r := H
     have A60 := Aside0.mk A600
     clear A600
     replace H := Option.bind_eq_some_iff.mp H
     obtain ⟨t743, A610, H⟩ := H
     replace H : (if t743 = true then ((laws_markMap.f kj10 t721 t724 1).bind fun bt744 => (if bt744.1 < 0 then (laws_FnExactMapLeast.j1 kj10 t719 true l0_0 l0_1 t713 t716 t728 t731) else ((laws_eqMap.f kj10 t728 t731 t713 t716).bind fun t747 => (if t747 = true then (laws_FnExactMapLeast.j1 kj10 t719 (t734 != t719) l0_0 l0_1 t713 t716 t728 t731) else (laws_FnExactMapLeast.j1 kj10 t719 true l0_0 l0_1 t713 t716 t728 t731))))) else (some false)) = some r := H
     have A61 := Aside0.mk A610
     clear A610
     by_cases c62 : t743 = true
     ·subst c62
      have H1 : ((laws_markMap.f kj10 t721 t724 1).bind fun bt744 => (if bt744.1 < 0 then (laws_FnExactMapLeast.j1 kj10 t719 true l0_0 l0_1 t713 t716 t728 t731) else ((laws_eqMap.f kj10 t728 t731 t713 t716).bind fun t747 => (if t747 = true then (laws_FnExactMapLeast.j1 kj10 t719 (t734 != t719) l0_0 l0_1 t713 t716 t728 t731) else (laws_FnExactMapLeast.j1 kj10 t719 true l0_0 l0_1 t713 t716 t728 t731))))) = some r := by rw [if_pos rfl] at H; exact H
      clear H
      have H := H1
      clear H1
      replace H := Option.bind_eq_some_iff.mp H
      obtain ⟨⟨t744, t745, t746⟩, A630, H⟩ := H
      replace H : (if t744 < 0 then (laws_FnExactMapLeast.j1 kj10 t719 true l0_0 l0_1 t713 t716 t728 t731) else ((laws_eqMap.f kj10 t728 t731 t713 t716).bind fun t747 => (if t747 = true then (laws_FnExactMapLeast.j1 kj10 t719 (t734 != t719) l0_0 l0_1 t713 t716 t728 t731) else (laws_FnExactMapLeast.j1 kj10 t719 true l0_0 l0_1 t713 t716 t728 t731)))) = some r := H
      have A63 := Aside0.mk A630
      clear A630
      have HC64 := Aside0.mk H
      clear H
      try go_wp2
      have n0_ := Aside0.mk (Kd.R_drew HO_721000.out)
      have n1_ := Aside0.mk (Kd.R_drew HO_721001.out)
      have n2_ := Aside0.mk (Kd.R_drew HO_728000.out)
      have n3_ := Aside0.mk (Kd.R_drew HO_728001.out)
      have n4_ := Aside0.mk (Kd.R_drew HO_736000.out)
      have n5_ := Aside0.mk (Kd.R_drew HO_736001.out)
      have n6_ := Aside0.mk (blk_drew BK705.out)
      have n7_ := Aside0.mk (blk_drew BK720.out)
      have n8_ := Aside0.mk (blk_drew BK727.out)
      have n9_ := Aside0.mk (blk_drew BK735.out)
      have n10_ := Aside0.mk (below_drew1 HB.out)
      clear HO_721000
      clear HO_721001
      clear HO_728000
      clear HO_728001
      clear HO_736000
      clear HO_736001
      clear BK705
      clear BK720
      clear BK727
      clear BK735
      clear HB
      have HO_721000 := n0_
      have HO_721001 := n1_
      have HO_728000 := n2_
      have HO_728001 := n3_
      have HO_736000 := n4_
      have HO_736001 := n5_
      have BK705 := n6_
      have BK720 := n7_
      have BK727 := n8_
      have BK735 := n9_
      have HB := n10_
      clear n0_ n1_ n2_ n3_ n4_ n5_ n6_ n7_ n8_ n9_ n10_
      refine start_ (n := 5) (S := fun w' => w'.cell? ⟨gb727, 0, none⟩ = some (.slice Ao28 t721.length co28) ∧ w'.cell? ⟨gb727, 1, none⟩ = some (.slice Ao32 t724.length co32) ∧ w'.cell? ⟨gb705, 0, none⟩ = some (.slice A0_0 l0_0.length c0_0) ∧ w'.cell? ⟨gb705, 1, none⟩ = some (.slice A0_1 l0_1.length c0_1)) (ds := []) #[false, false, false, false, false] (by kernel_rfl) rfl rfl ⟨(blk_cell BK727.out 0).trans rfl, (blk_cell BK727.out 1).trans rfl, (blk_cell BK705.out 0).trans rfl, (blk_cell BK705.out 1).trans rfl⟩ (fun hHeld => ?_)
      generalize wc.drew = w65 at HO_721000 HO_721001 HO_728000 HO_728001 HO_736000 HO_736001 BK705 BK720 BK727 BK735 HB hHeld ⊢
      refine take_ (i := 0) (N := some 41) (v := ?_) (a' := ?_) #[true, false, false, false, false] rfl rfl (by kernel_rfl) (fun _ _ _ h => h) (Or.inl ⟨by rfl, ?_⟩) hHeld ?_ ?_
      rotate_left
      ·rintro w' ⟨s0, s1, s2, s3⟩
       go_simp
       with_reducible rfl
      rotate_left
      ·simp only [Act.put, List.setIfInBounds_toArray, List.set_cons_zero, List.set_cons_succ, i64_w, i32_w]
       rfl
      refine take_ (i := 1) (N := some 42) (v := ?_) (a' := ?_) #[true, true, false, false, false] rfl rfl (by kernel_rfl) (fun _ _ _ h => h) (Or.inl ⟨by rfl, ?_⟩) hHeld ?_ ?_
      rotate_left
      ·rintro w' ⟨s0, s1, s2, s3⟩
       go_simp
       with_reducible rfl
      rotate_left
      ·simp only [Act.put, List.setIfInBounds_toArray, List.set_cons_zero, List.set_cons_succ, i64_w, i32_w]
       rfl
      refine one_ (i := 2) (N := some 43) #[true, true, true, false, false] rfl rfl (by kernel_rfl) (by decide) (fun K hK => ?_)
      refine goes_ Try.func21 (by kernel_rfl) rfl #[.agg #[.slice A0_0 l0_0.length c0_0, .slice A0_1 l0_1.length c0_1]] (by rfl) rfl rfl (by (try simp only [List.map_toArray, List.map_cons, List.map_nil]); first | done | rfl | (simp only [List.length_drop, List.length_take]; rfl)) ?_
      with_reducible refine (laws_toMap.calls kj10 _ _ l0_0 _ _ l0_1 t737 t740 _ ?side1 ?side2 ?side3 ?side4 A60.out).mono ?_
      (case side1 => exact cB HR0_0 HB)
      (case side2 => exact HC0_0.out)
      (case side3 => exact cB HR0_1 HB)
      (case side4 => exact HC0_1.out)
      rintro e w66 ⟨v738, v741, rfl, ho0, ho1, hb⟩
      refine ⟨_, rfl, ?_⟩
      have n0_ := Aside0.mk (Kd.R_mono (Kd.R_told (Kd.R_told (Kd.R_old (rP HO_721000) hb) (Kd.R_base ho0)) (Kd.R_base ho1)) (fun _ h_ => h_.1))
      have n1_ := Aside0.mk (Kd.R_mono (Kd.R_told (Kd.R_told (Kd.R_old (rP HO_721001) hb) (Kd.R_base ho0)) (Kd.R_base ho1)) (fun _ h_ => h_.1))
      have n2_ := Aside0.mk (Kd.R_mono (Kd.R_told (Kd.R_told (Kd.R_old (rP HO_728000) hb) (Kd.R_base ho0)) (Kd.R_base ho1)) (fun _ h_ => h_.1))
      have n3_ := Aside0.mk (Kd.R_mono (Kd.R_told (Kd.R_told (Kd.R_old (rP HO_728001) hb) (Kd.R_base ho0)) (Kd.R_base ho1)) (fun _ h_ => h_.1))
      have n4_ := Aside0.mk (Kd.R_mono (Kd.R_told (Kd.R_told (Kd.R_old (rP HO_736000) hb) (Kd.R_base ho0)) (Kd.R_base ho1)) (fun _ h_ => h_.1))
      have n5_ := Aside0.mk (Kd.R_mono (Kd.R_told (Kd.R_told (Kd.R_old (rP HO_736001) hb) (Kd.R_base ho0)) (Kd.R_base ho1)) (fun _ h_ => h_.1))
      have n6_ := Aside0.mk (Kd.R_lower (Kd.R_new' (Kd.R_new' (Kd.R_new' (Kd.R_new' (Kd.R_new' (Kd.R_new' ho0 (Kd.R_lt (rP HO_721000))) (Kd.R_lt (rP HO_721001))) (Kd.R_lt (rP HO_728000))) (Kd.R_lt (rP HO_728001))) (Kd.R_lt (rP HO_736000))) (Kd.R_lt (rP HO_736001))) (below_size (bP HB)))
      have n7_ := Aside0.mk (Kd.R_lower (Kd.R_new' (Kd.R_new' (Kd.R_new' (Kd.R_new' (Kd.R_new' (Kd.R_new' ho1 (Kd.R_lt (rP HO_721000))) (Kd.R_lt (rP HO_721001))) (Kd.R_lt (rP HO_728000))) (Kd.R_lt (rP HO_728001))) (Kd.R_lt (rP HO_736000))) (Kd.R_lt (rP HO_736001))) (below_size (bP HB)))
      have n8_ := kB BK705 hb
      have n9_ := kB BK720 hb
      have n10_ := kB BK727 hb
      have n11_ := kB BK735 hb
      have n12_ := bS HB hb
      clear HO_721000
      clear HO_721001
      clear HO_728000
      clear HO_728001
      clear HO_736000
      clear HO_736001
      clear BK705
      clear BK720
      clear BK727
      clear BK735
      clear HB
      have HO_721000 := n0_
      have HO_721001 := n1_
      have HO_728000 := n2_
      have HO_728001 := n3_
      have HO_736000 := n4_
      have HO_736001 := n5_
      have HO739 := n6_
      have HO742 := n7_
      have BK705 := n8_
      have BK720 := n9_
      have BK727 := n10_
      have BK735 := n11_
      have HB := n12_
      clear n0_ n1_ n2_ n3_ n4_ n5_ n6_ n7_ n8_ n9_ n10_ n11_ n12_
      (try clear hb)
      (try clear hb2)
      (try clear hk)
      (try clear hi)
      (try clear ho0)
      (try clear ho1)
      obtain ⟨Ao67, co67, eo67⟩ := Kd.R_slice HO739.out
      (first | subst eo67 | (injection eo67 with f1_ f2_ f3_; have f4_ := f1_.symm; have f5_ := f3_.symm; clear f1_ f2_ f3_; subst f4_; subst f5_))
      obtain ⟨Ao68, co68, eo68⟩ := Kd.R_slice HO742.out
      (first | subst eo68 | (injection eo68 with f1_ f2_ f3_; have f4_ := f1_.symm; have f5_ := f3_.symm; clear f1_ f2_ f3_; subst f4_; subst f5_))
      refine hK.out _ _ ⟨(blk_cell BK727.out 0).trans rfl, (blk_cell BK727.out 1).trans rfl, (blk_cell BK705.out 0).trans rfl, (blk_cell BK705.out 1).trans rfl⟩ (fun hHeld => ?_)
      clear hK K
      refine norm_ (a' := ?_) ?_ ?_
      rotate_left
      ·show Act.put _ (some 43) _ = _
       simp only [Act.put, List.setIfInBounds_toArray, List.set_cons_zero, List.set_cons_succ, i64_w, i32_w]
       rfl
      refine one_ (i := 3) (N := some 44) #[true, true, true, true, false] rfl rfl (by kernel_rfl) (by decide) (fun K hK => ?_)
      refine goes_ Try.func23 (by kernel_rfl) rfl #[.agg #[.slice Ao28 t721.length co28, .slice Ao32 t724.length co32], .agg #[.slice Ao67 t737.length co67, .slice Ao68 t740.length co68]] (by rfl) rfl rfl (by (try simp only [List.map_toArray, List.map_cons, List.map_nil]); first | done | rfl | (simp only [List.length_drop, List.length_take]; rfl)) ?_
      with_reducible refine (laws_eqMap.calls kj10 _ _ t721 _ _ t724 _ _ t737 _ _ t740 true _ ?side1 ?side2 ?side3 ?side4 ?side5 ?side6 ?side7 ?side8 A61.out).mono ?_
      (case side1 => exact cP (Kd.R_reads' HO_728000.out).2.2)
      (case side2 => exact (Kd.R_reads' HO_728000.out).2.1)
      (case side3 => exact cP (Kd.R_reads' HO_728001.out).2.2)
      (case side4 => exact (Kd.R_reads' HO_728001.out).2.1)
      (case side5 => exact cP (Kd.R_reads' HO739.out).2.2)
      (case side6 => exact (Kd.R_reads' HO739.out).2.1)
      (case side7 => exact cP (Kd.R_reads' HO742.out).2.2)
      (case side8 => exact (Kd.R_reads' HO742.out).2.1)
      rintro e w69 ⟨rfl, hb⟩
      refine ⟨_, rfl, ?_⟩
      have n0_ := rB HO_721000 hb
      have n1_ := rB HO_721001 hb
      have n2_ := rB HO_728000 hb
      have n3_ := rB HO_728001 hb
      have n4_ := rB HO_736000 hb
      have n5_ := rB HO_736001 hb
      have n6_ := rB HO739 hb
      have n7_ := rB HO742 hb
      have n8_ := kB BK705 hb
      have n9_ := kB BK720 hb
      have n10_ := kB BK727 hb
      have n11_ := kB BK735 hb
      have n12_ := bS HB hb
      clear HO_721000
      clear HO_721001
      clear HO_728000
      clear HO_728001
      clear HO_736000
      clear HO_736001
      clear HO739
      clear HO742
      clear BK705
      clear BK720
      clear BK727
      clear BK735
      clear HB
      have HO_721000 := n0_
      have HO_721001 := n1_
      have HO_728000 := n2_
      have HO_728001 := n3_
      have HO_736000 := n4_
      have HO_736001 := n5_
      have HO739 := n6_
      have HO742 := n7_
      have BK705 := n8_
      have BK720 := n9_
      have BK727 := n10_
      have BK735 := n11_
      have HB := n12_
      clear n0_ n1_ n2_ n3_ n4_ n5_ n6_ n7_ n8_ n9_ n10_ n11_ n12_
      (try clear hb)
      (try clear hb2)
      (try clear hk)
      (try clear hi)
      refine hK.out _ _ ⟨(blk_cell BK727.out 0).trans rfl, (blk_cell BK727.out 1).trans rfl, (blk_cell BK705.out 0).trans rfl, (blk_cell BK705.out 1).trans rfl⟩ (fun hHeld => ?_)
      clear hK K
      refine norm_ (a' := ?_) ?_ ?_
      rotate_left
      ·show Act.put _ (some 44) _ = _
       simp only [Act.put, List.setIfInBounds_toArray, List.set_cons_zero, List.set_cons_succ, i64_w, i32_w]
       rfl
      refine pure_ (i := 4) (N := some 45) (v := ?_) (a' := ?_) #[true, true, true, true, true] rfl rfl (by kernel_rfl) (fun _ _ _ h => h) (Or.inl ⟨by rfl, ?_⟩) ?_ ?_
      rotate_left
      ·intro w'
       go_simp
       with_reducible rfl
      rotate_left
      ·simp only [Act.put, List.setIfInBounds_toArray, List.set_cons_zero, List.set_cons_succ, i64_w, i32_w]
       rfl
      refine done_ (by kernel_rfl) ?_
      have hnb70 := NB727_705.out
      have hnc70 := NB705_727.out
      have hnb71 := NB727_720.out
      have hnc71 := NB720_727.out
      have hnb72 := NB727_735.out
      have hnc72 := NB735_727.out
      have hcz73_0 := zc0 BK727
      have hcz73_1 := zc1 BK727
      have hfz73_0 := blk_frozen BK727.out 0
      have hfz73_1 := blk_frozen BK727.out 1
      go_upto_region 14 with (first | ((with_reducible refine gate_callee (f := 26) rfl ?_); refine gL (some 48) Try.func26 #[.agg #[.slice Ao28 t721.length co28, .slice Ao32 t724.length co32], .int .i64 1] ?_; (with_reducible refine (laws_markMap.calls kj10 (fun k_ => some k_ = (.slice Ao28 t721.length co28 : Value).ownBlock) (.slice Ao28 t721.length co28) t721 (fun k_ => some k_ = (.slice Ao32 t724.length co32 : Value).ownBlock) (.slice Ao32 t724.length co32) t724 1 t744 t745 t746 w _ ?side1 ?side2 ?side3 ?side4 ?side5 A63.out).mono ?_); (case side1 => exact bP HB); (case side2 => exact Kd.R_tight rfl HO_728000.out); (case side3 => exact fun k_ e_ => (HO_728000.out.1 k_ e_.symm).1.1.2.2.1); (case side4 => exact Kd.R_tight rfl HO_728001.out); (case side5 => exact fun k_ e_ => (HO_728001.out.1 k_ e_.symm).1.1.2.2.1); rintro e w74 ⟨rfl, hy0, hy1, hb, hkp⟩; refine ⟨_, rfl, ?_⟩; replace HO_721000 := Aside0.mk (Kd.R_mono (ok' := fun k_ => some k_ ≠ (.slice Ao24 t716.length co24 : Value).ownBlock ∧ some k_ ≠ (.slice Ao28 t721.length co28 : Value).ownBlock ∧ some k_ ≠ (.slice Ao32 t724.length co32 : Value).ownBlock ∧ some k_ ≠ (.slice Ao35 t728.length co35 : Value).ownBlock ∧ some k_ ≠ (.slice Ao40 t731.length co40 : Value).ownBlock ∧ some k_ ≠ (.slice Ao67 t737.length co67 : Value).ownBlock ∧ some k_ ≠ (.slice Ao68 t740.length co68 : Value).ownBlock) (Kd.R_keptB (HO_721000.out) hkp (fun k_ hk_ hs_ => Or.elim hs_ (fun e_ => (hk_.1.1.2.1) e_) (fun e_ => (hk_.1.1.2.2.1) e_))) (fun k_ hk_ => ⟨hk_.1.1.1.1, hk_.1.1.1.2.1, hk_.1.1.1.2.2.1, hk_.1.1.1.2.2.2.1, hk_.1.1.1.2.2.2.2, hk_.1.1.2, hk_.1.2⟩)); replace HO_721001 := Aside0.mk (Kd.R_mono (ok' := fun k_ => some k_ ≠ (.slice Ao21 t713.length co21 : Value).ownBlock ∧ some k_ ≠ (.slice Ao28 t721.length co28 : Value).ownBlock ∧ some k_ ≠ (.slice Ao32 t724.length co32 : Value).ownBlock ∧ some k_ ≠ (.slice Ao35 t728.length co35 : Value).ownBlock ∧ some k_ ≠ (.slice Ao40 t731.length co40 : Value).ownBlock ∧ some k_ ≠ (.slice Ao67 t737.length co67 : Value).ownBlock ∧ some k_ ≠ (.slice Ao68 t740.length co68 : Value).ownBlock) (Kd.R_keptB (HO_721001.out) hkp (fun k_ hk_ hs_ => Or.elim hs_ (fun e_ => (hk_.1.1.2.1) e_) (fun e_ => (hk_.1.1.2.2.1) e_))) (fun k_ hk_ => ⟨hk_.1.1.1.1, hk_.1.1.1.2.1, hk_.1.1.1.2.2.1, hk_.1.1.1.2.2.2.1, hk_.1.1.1.2.2.2.2, hk_.1.1.2, hk_.1.2⟩)); replace HO_736000 := Aside0.mk (Kd.R_mono (ok' := fun k_ => some k_ ≠ (.slice Ao21 t713.length co21 : Value).ownBlock ∧ some k_ ≠ (.slice Ao24 t716.length co24 : Value).ownBlock ∧ some k_ ≠ (.slice Ao28 t721.length co28 : Value).ownBlock ∧ some k_ ≠ (.slice Ao32 t724.length co32 : Value).ownBlock ∧ some k_ ≠ (.slice Ao40 t731.length co40 : Value).ownBlock ∧ some k_ ≠ (.slice Ao67 t737.length co67 : Value).ownBlock ∧ some k_ ≠ (.slice Ao68 t740.length co68 : Value).ownBlock) (Kd.R_keptB (HO_736000.out) hkp (fun k_ hk_ hs_ => Or.elim hs_ (fun e_ => (hk_.1.1.2.2.1) e_) (fun e_ => (hk_.1.1.2.2.2.1) e_))) (fun k_ hk_ => ⟨hk_.1.1.1.1, hk_.1.1.1.2.1, hk_.1.1.1.2.2.1, hk_.1.1.1.2.2.2.1, hk_.1.1.1.2.2.2.2, hk_.1.1.2, hk_.1.2⟩)); replace HO_736001 := Aside0.mk (Kd.R_mono (ok' := fun k_ => some k_ ≠ (.slice Ao21 t713.length co21 : Value).ownBlock ∧ some k_ ≠ (.slice Ao24 t716.length co24 : Value).ownBlock ∧ some k_ ≠ (.slice Ao28 t721.length co28 : Value).ownBlock ∧ some k_ ≠ (.slice Ao32 t724.length co32 : Value).ownBlock ∧ some k_ ≠ (.slice Ao35 t728.length co35 : Value).ownBlock ∧ some k_ ≠ (.slice Ao67 t737.length co67 : Value).ownBlock ∧ some k_ ≠ (.slice Ao68 t740.length co68 : Value).ownBlock) (Kd.R_keptB (HO_736001.out) hkp (fun k_ hk_ hs_ => Or.elim hs_ (fun e_ => (hk_.1.1.2.2.1) e_) (fun e_ => (hk_.1.1.2.2.2.1) e_))) (fun k_ hk_ => ⟨hk_.1.1.1.1, hk_.1.1.1.2.1, hk_.1.1.1.2.2.1, hk_.1.1.1.2.2.2.1, hk_.1.1.1.2.2.2.2, hk_.1.1.2, hk_.1.2⟩)); replace BK705 := Aside0.mk (blk_kept (kP BK705) hkp (fun hs_ => Or.elim hs_ (fun e_ => (fun e_ => (Kd.R_ne HO_728000.out BK705.out (by decide)) e_) e_) (fun e_ => (fun e_ => (Kd.R_ne HO_728001.out BK705.out (by decide)) e_) e_))); replace BK720 := Aside0.mk (blk_kept (kP BK720) hkp (fun hs_ => Or.elim hs_ (fun e_ => (fun e_ => (Kd.R_ne HO_728000.out BK720.out (by decide)) e_) e_) (fun e_ => (fun e_ => (Kd.R_ne HO_728001.out BK720.out (by decide)) e_) e_))); replace BK727 := Aside0.mk (blk_kept (kP BK727) hkp (fun hs_ => Or.elim hs_ (fun e_ => (fun e_ => (Kd.R_ne HO_728000.out BK727.out (by decide)) e_) e_) (fun e_ => (fun e_ => (Kd.R_ne HO_728001.out BK727.out (by decide)) e_) e_))); replace BK735 := Aside0.mk (blk_kept (kP BK735) hkp (fun hs_ => Or.elim hs_ (fun e_ => (fun e_ => (Kd.R_ne HO_728000.out BK735.out (by decide)) e_) e_) (fun e_ => (fun e_ => (Kd.R_ne HO_728001.out BK735.out (by decide)) e_) e_))); replace HO_728000 := Aside0.mk (Kd.R_reok rfl hy0 (fun k_ e_ => HO_728000.out.1 k_ e_)); replace HO_728001 := Aside0.mk (Kd.R_reok rfl hy1 (fun k_ e_ => HO_728001.out.1 k_ e_)); replace HO739 := Aside0.mk (Kd.R_mono (ok' := fun k_ => some k_ ≠ (.slice Ao21 t713.length co21 : Value).ownBlock ∧ some k_ ≠ (.slice Ao24 t716.length co24 : Value).ownBlock ∧ some k_ ≠ (.slice Ao28 t721.length co28 : Value).ownBlock ∧ some k_ ≠ (.slice Ao32 t724.length co32 : Value).ownBlock ∧ some k_ ≠ (.slice Ao35 t728.length co35 : Value).ownBlock ∧ some k_ ≠ (.slice Ao40 t731.length co40 : Value).ownBlock ∧ some k_ ≠ (.slice Ao68 t740.length co68 : Value).ownBlock) (Kd.R_keptB (HO739.out) hkp (fun k_ hk_ hs_ => Or.elim hs_ (fun e_ => (hk_.1.1.1.2) e_) (fun e_ => (hk_.1.1.2) e_))) (fun k_ hk_ => ⟨hk_.1.1.1.1.1.1.2, hk_.1.1.1.1.1.2, hk_.1.1.1.1.2, hk_.1.1.1.2, hk_.1.1.2, hk_.1.2, hk_.1.1.1.1.1.1.1⟩)); replace HO742 := Aside0.mk (Kd.R_mono (ok' := fun k_ => some k_ ≠ (.slice Ao21 t713.length co21 : Value).ownBlock ∧ some k_ ≠ (.slice Ao24 t716.length co24 : Value).ownBlock ∧ some k_ ≠ (.slice Ao28 t721.length co28 : Value).ownBlock ∧ some k_ ≠ (.slice Ao32 t724.length co32 : Value).ownBlock ∧ some k_ ≠ (.slice Ao35 t728.length co35 : Value).ownBlock ∧ some k_ ≠ (.slice Ao40 t731.length co40 : Value).ownBlock ∧ some k_ ≠ (.slice Ao67 t737.length co67 : Value).ownBlock) (Kd.R_keptB (HO742.out) hkp (fun k_ hk_ hs_ => Or.elim hs_ (fun e_ => (hk_.1.1.1.2) e_) (fun e_ => (hk_.1.1.2) e_))) (fun k_ hk_ => ⟨hk_.1.1.1.1.1.1.2, hk_.1.1.1.1.1.2, hk_.1.1.1.1.2, hk_.1.1.1.2, hk_.1.1.2, hk_.1.2, hk_.1.1.1.1.1.1.1⟩)); replace HB := Aside0.mk (hb); (try clear hb); (try clear hkp); (try clear hy0); (try clear hy1)))
      (try simp only [Act.put, List.setIfInBounds_toArray, List.set_cons_zero, List.set_cons_succ])
      go_cut [61] (fun v61 wc => ∃ (kq : Nat) (x61_63 : Bool), v61 = .bool x61_63 ∧ Aside0 (laws_FnExactMapLeast.j1 kq t719 x61_63 l0_0 l0_1 t713 t716 t728 t731 = some r) ∧ Aside0 (kq ≤ kj10) ∧ Aside0 (Kd.R (Kd.int .i64) 3 wc w.heap.size (fun k_ => some k_ ≠ ((.slice Ao24 t716.length co24) : Value).ownBlock ∧ some k_ ≠ ((.slice Ao28 t721.length co28) : Value).ownBlock ∧ some k_ ≠ ((.slice Ao32 t724.length co32) : Value).ownBlock ∧ some k_ ≠ ((.slice Ao35 t728.length co35) : Value).ownBlock ∧ some k_ ≠ ((.slice Ao40 t731.length co40) : Value).ownBlock) (.slice Ao21 t713.length co21) t713) ∧ Aside0 (Kd.R (Kd.int .i64) 3 wc w.heap.size (fun k_ => some k_ ≠ ((.slice Ao21 t713.length co21) : Value).ownBlock ∧ some k_ ≠ ((.slice Ao28 t721.length co28) : Value).ownBlock ∧ some k_ ≠ ((.slice Ao32 t724.length co32) : Value).ownBlock ∧ some k_ ≠ ((.slice Ao35 t728.length co35) : Value).ownBlock ∧ some k_ ≠ ((.slice Ao40 t731.length co40) : Value).ownBlock) (.slice Ao24 t716.length co24) t716) ∧ Aside0 (Kd.R (Kd.int .i64) 3 wc w.heap.size (fun k_ => some k_ ≠ ((.slice Ao21 t713.length co21) : Value).ownBlock ∧ some k_ ≠ ((.slice Ao24 t716.length co24) : Value).ownBlock ∧ some k_ ≠ ((.slice Ao32 t724.length co32) : Value).ownBlock ∧ some k_ ≠ ((.slice Ao35 t728.length co35) : Value).ownBlock ∧ some k_ ≠ ((.slice Ao40 t731.length co40) : Value).ownBlock) (.slice Ao28 t721.length co28) t745) ∧ Aside0 (Kd.R (Kd.int .i64) 3 wc w.heap.size (fun k_ => some k_ ≠ ((.slice Ao21 t713.length co21) : Value).ownBlock ∧ some k_ ≠ ((.slice Ao24 t716.length co24) : Value).ownBlock ∧ some k_ ≠ ((.slice Ao28 t721.length co28) : Value).ownBlock ∧ some k_ ≠ ((.slice Ao35 t728.length co35) : Value).ownBlock ∧ some k_ ≠ ((.slice Ao40 t731.length co40) : Value).ownBlock) (.slice Ao32 t724.length co32) t746) ∧ Aside0 (Kd.R (Kd.int .i64) 3 wc w.heap.size (fun k_ => some k_ ≠ ((.slice Ao21 t713.length co21) : Value).ownBlock ∧ some k_ ≠ ((.slice Ao24 t716.length co24) : Value).ownBlock ∧ some k_ ≠ ((.slice Ao28 t721.length co28) : Value).ownBlock ∧ some k_ ≠ ((.slice Ao32 t724.length co32) : Value).ownBlock ∧ some k_ ≠ ((.slice Ao40 t731.length co40) : Value).ownBlock) (.slice Ao35 t728.length co35) t728) ∧ Aside0 (Kd.R (Kd.int .i64) 3 wc w.heap.size (fun k_ => some k_ ≠ ((.slice Ao21 t713.length co21) : Value).ownBlock ∧ some k_ ≠ ((.slice Ao24 t716.length co24) : Value).ownBlock ∧ some k_ ≠ ((.slice Ao28 t721.length co28) : Value).ownBlock ∧ some k_ ≠ ((.slice Ao32 t724.length co32) : Value).ownBlock ∧ some k_ ≠ ((.slice Ao35 t728.length co35) : Value).ownBlock) (.slice Ao40 t731.length co40) t731) ∧ Aside0 (wc.heap[gb705]? = some (.cells #[(.slice A0_0 l0_0.length c0_0), (.slice A0_1 l0_1.length c0_1)] 37 (0, 0))) ∧ Aside0 (wc.heap[gb720]? = some (.cells #[(.slice Ao21 t713.length co21), (.slice Ao24 t716.length co24)] 40 (0, 0))) ∧ Aside0 (wc.heap[gb727]? = some (.cells #[(.slice Ao28 t721.length co28), (.slice Ao32 t724.length co32)] 40 (0, 0))) ∧ Aside0 (wc.heap[gb735]? = some (.cells #[(.slice Ao35 t728.length co35), (.slice Ao40 t731.length co40)] 40 (0, 0))) ∧ Aside0 (Below w.heap.size w wc))
      case first =>
       have H := HC64.out
       clear HC64
       by_cases c75 : t744 < 0
       ·rw [if_pos c75] at H
        have c75b0 : decide (t744 < 0) = true := decide_eq_true c75
        clear c75
        (first | rw [c75b0] | (simp only [i64_w, i32_w]; rw [c75b0]) | skip)
        have H' := Aside0.mk H
        clear H
        go_wp2
        go_meet
        case rel => exact ⟨_, (true), eS, H', ⟨by have := HJ10.out; first | omega | exact Nat.le_refl _⟩, ⟨by (with_reducible repeat (first | apply Kd.R_alloc | apply Kd.R_drewN | apply Kd.R_drew)); exact Kd.R_mono HO_721000.out (fun _ hk => ⟨hk.1, ⟨hk.2.1, ⟨hk.2.2.1, ⟨hk.2.2.2.1, hk.2.2.2.2.1⟩⟩⟩⟩)⟩, ⟨by (with_reducible repeat (first | apply Kd.R_alloc | apply Kd.R_drewN | apply Kd.R_drew)); exact Kd.R_mono HO_721001.out (fun _ hk => ⟨hk.1, ⟨hk.2.1, ⟨hk.2.2.1, ⟨hk.2.2.2.1, hk.2.2.2.2.1⟩⟩⟩⟩)⟩, ⟨by (with_reducible repeat (first | apply Kd.R_alloc | apply Kd.R_drewN | apply Kd.R_drew)); exact Kd.R_mono HO_728000.out (fun _ hk => ⟨hk.1.1.1, ⟨hk.1.1.2.1, ⟨hk.1.1.2.2.1, ⟨hk.1.1.2.2.2.1, hk.1.1.2.2.2.2⟩⟩⟩⟩)⟩, ⟨by (with_reducible repeat (first | apply Kd.R_alloc | apply Kd.R_drewN | apply Kd.R_drew)); exact Kd.R_mono HO_728001.out (fun _ hk => ⟨hk.1.1.1, ⟨hk.1.1.2.1, ⟨hk.1.1.2.2.1, ⟨hk.1.1.2.2.2.1, hk.1.1.2.2.2.2⟩⟩⟩⟩)⟩, ⟨by (with_reducible repeat (first | apply Kd.R_alloc | apply Kd.R_drewN | apply Kd.R_drew)); exact Kd.R_mono HO_736000.out (fun _ hk => ⟨hk.1, ⟨hk.2.1, ⟨hk.2.2.1, ⟨hk.2.2.2.1, hk.2.2.2.2.1⟩⟩⟩⟩)⟩, ⟨by (with_reducible repeat (first | apply Kd.R_alloc | apply Kd.R_drewN | apply Kd.R_drew)); exact Kd.R_mono HO_736001.out (fun _ hk => ⟨hk.1, ⟨hk.2.1, ⟨hk.2.2.1, ⟨hk.2.2.2.1, hk.2.2.2.2.1⟩⟩⟩⟩)⟩, ⟨kP BK705⟩, ⟨kP BK720⟩, ⟨kP BK727⟩, ⟨kP BK735⟩, ⟨bP HB⟩⟩
       ·rw [if_neg c75] at H
        have c75b0 : decide (t744 < 0) = false := decide_eq_false c75
        clear c75
        (first | rw [c75b0] | (simp only [i64_w, i32_w]; rw [c75b0]) | skip)
        replace H := Option.bind_eq_some_iff.mp H
        obtain ⟨t747, A760, H⟩ := H
        replace H : (if t747 = true then (laws_FnExactMapLeast.j1 kj10 t719 (t734 != t719) l0_0 l0_1 t713 t716 t728 t731) else (laws_FnExactMapLeast.j1 kj10 t719 true l0_0 l0_1 t713 t716 t728 t731)) = some r := H
        have A76 := Aside0.mk A760
        clear A760
        by_cases c77 : t747 = true
        ·subst c77
         have H1 : (laws_FnExactMapLeast.j1 kj10 t719 (t734 != t719) l0_0 l0_1 t713 t716 t728 t731) = some r := by rw [if_pos rfl] at H; exact H
         clear H
         have H := H1
         clear H1
         have H' := Aside0.mk H
         clear H
         have hnb78 := NB735_705.out
         have hnc78 := NB705_735.out
         have hnb79 := NB735_720.out
         have hnc79 := NB720_735.out
         have hnb80 := NB735_727.out
         have hnc80 := NB727_735.out
         have hcz81_0 := zc0 BK735
         have hcz81_1 := zc1 BK735
         have hfz81_0 := blk_frozen BK735.out 0
         have hfz81_1 := blk_frozen BK735.out 1
         have hnb82 := NB720_705.out
         have hnc82 := NB705_720.out
         have hnb83 := NB720_727.out
         have hnc83 := NB727_720.out
         have hcz84_0 := zc0 BK720
         have hcz84_1 := zc1 BK720
         have hfz84_0 := blk_frozen BK720.out 0
         have hfz84_1 := blk_frozen BK720.out 1
         go_wp2_with (first | (go_at_call 23; (with_reducible refine (laws_eqMap.calls kj10 _ _ t728 _ _ t731 _ _ t713 _ _ t716 true _ ?side1 ?side2 ?side3 ?side4 ?side5 ?side6 ?side7 ?side8 A76.out).mono ?_); (case side1 => exact cP (Kd.R_reads' HO_736000.out).2.2); (case side2 => exact (Kd.R_reads' HO_736000.out).2.1); (case side3 => exact cP (Kd.R_reads' HO_736001.out).2.2); (case side4 => exact (Kd.R_reads' HO_736001.out).2.1); (case side5 => exact cP (Kd.R_reads' HO_721000.out).2.2); (case side6 => exact (Kd.R_reads' HO_721000.out).2.1); (case side7 => exact cP (Kd.R_reads' HO_721001.out).2.2); (case side8 => exact (Kd.R_reads' HO_721001.out).2.1); rintro e w85 ⟨rfl, hb⟩; replace HO_721000 := rB HO_721000 hb; replace HO_721001 := rB HO_721001 hb; replace HO_728000 := rB HO_728000 hb; replace HO_728001 := rB HO_728001 hb; replace HO_736000 := rB HO_736000 hb; replace HO_736001 := rB HO_736001 hb; replace HO739 := rB HO739 hb; replace HO742 := rB HO742 hb; replace BK705 := kB BK705 hb; replace BK720 := kB BK720 hb; replace BK727 := kB BK727 hb; replace BK735 := kB BK735 hb; replace HB := bS HB hb; (try clear hb); (try clear hb2); (try clear hk); (try clear hi)))
         go_meet
         case rel => exact ⟨_, ((t734 != t719)), eS, H', ⟨by have := HJ10.out; first | omega | exact Nat.le_refl _⟩, ⟨by (with_reducible repeat (first | apply Kd.R_alloc | apply Kd.R_drewN | apply Kd.R_drew)); exact Kd.R_mono HO_721000.out (fun _ hk => ⟨hk.1, ⟨hk.2.1, ⟨hk.2.2.1, ⟨hk.2.2.2.1, hk.2.2.2.2.1⟩⟩⟩⟩)⟩, ⟨by (with_reducible repeat (first | apply Kd.R_alloc | apply Kd.R_drewN | apply Kd.R_drew)); exact Kd.R_mono HO_721001.out (fun _ hk => ⟨hk.1, ⟨hk.2.1, ⟨hk.2.2.1, ⟨hk.2.2.2.1, hk.2.2.2.2.1⟩⟩⟩⟩)⟩, ⟨by (with_reducible repeat (first | apply Kd.R_alloc | apply Kd.R_drewN | apply Kd.R_drew)); exact Kd.R_mono HO_728000.out (fun _ hk => ⟨hk.1.1.1, ⟨hk.1.1.2.1, ⟨hk.1.1.2.2.1, ⟨hk.1.1.2.2.2.1, hk.1.1.2.2.2.2⟩⟩⟩⟩)⟩, ⟨by (with_reducible repeat (first | apply Kd.R_alloc | apply Kd.R_drewN | apply Kd.R_drew)); exact Kd.R_mono HO_728001.out (fun _ hk => ⟨hk.1.1.1, ⟨hk.1.1.2.1, ⟨hk.1.1.2.2.1, ⟨hk.1.1.2.2.2.1, hk.1.1.2.2.2.2⟩⟩⟩⟩)⟩, ⟨by (with_reducible repeat (first | apply Kd.R_alloc | apply Kd.R_drewN | apply Kd.R_drew)); exact Kd.R_mono HO_736000.out (fun _ hk => ⟨hk.1, ⟨hk.2.1, ⟨hk.2.2.1, ⟨hk.2.2.2.1, hk.2.2.2.2.1⟩⟩⟩⟩)⟩, ⟨by (with_reducible repeat (first | apply Kd.R_alloc | apply Kd.R_drewN | apply Kd.R_drew)); exact Kd.R_mono HO_736001.out (fun _ hk => ⟨hk.1, ⟨hk.2.1, ⟨hk.2.2.1, ⟨hk.2.2.2.1, hk.2.2.2.2.1⟩⟩⟩⟩)⟩, ⟨kP BK705⟩, ⟨kP BK720⟩, ⟨kP BK727⟩, ⟨kP BK735⟩, ⟨bP HB⟩⟩
        ·replace c77 := Bool.eq_false_iff.mpr c77
         subst c77
         have H1 : (laws_FnExactMapLeast.j1 kj10 t719 true l0_0 l0_1 t713 t716 t728 t731) = some r := by rw [if_neg (show ¬ (false = true) by decide)] at H; exact H
         clear H
         have H := H1
         clear H1
         have H' := Aside0.mk H
         clear H
         have hnb86 := NB735_705.out
         have hnc86 := NB705_735.out
         have hnb87 := NB735_720.out
         have hnc87 := NB720_735.out
         have hnb88 := NB735_727.out
         have hnc88 := NB727_735.out
         have hcz89_0 := zc0 BK735
         have hcz89_1 := zc1 BK735
         have hfz89_0 := blk_frozen BK735.out 0
         have hfz89_1 := blk_frozen BK735.out 1
         have hnb90 := NB720_705.out
         have hnc90 := NB705_720.out
         have hnb91 := NB720_727.out
         have hnc91 := NB727_720.out
         have hcz92_0 := zc0 BK720
         have hcz92_1 := zc1 BK720
         have hfz92_0 := blk_frozen BK720.out 0
         have hfz92_1 := blk_frozen BK720.out 1
         go_wp2_with (first | (go_at_call 23; (with_reducible refine (laws_eqMap.calls kj10 _ _ t728 _ _ t731 _ _ t713 _ _ t716 false _ ?side1 ?side2 ?side3 ?side4 ?side5 ?side6 ?side7 ?side8 A76.out).mono ?_); (case side1 => exact cP (Kd.R_reads' HO_736000.out).2.2); (case side2 => exact (Kd.R_reads' HO_736000.out).2.1); (case side3 => exact cP (Kd.R_reads' HO_736001.out).2.2); (case side4 => exact (Kd.R_reads' HO_736001.out).2.1); (case side5 => exact cP (Kd.R_reads' HO_721000.out).2.2); (case side6 => exact (Kd.R_reads' HO_721000.out).2.1); (case side7 => exact cP (Kd.R_reads' HO_721001.out).2.2); (case side8 => exact (Kd.R_reads' HO_721001.out).2.1); rintro e w93 ⟨rfl, hb⟩; replace HO_721000 := rB HO_721000 hb; replace HO_721001 := rB HO_721001 hb; replace HO_728000 := rB HO_728000 hb; replace HO_728001 := rB HO_728001 hb; replace HO_736000 := rB HO_736000 hb; replace HO_736001 := rB HO_736001 hb; replace HO739 := rB HO739 hb; replace HO742 := rB HO742 hb; replace BK705 := kB BK705 hb; replace BK720 := kB BK720 hb; replace BK727 := kB BK727 hb; replace BK735 := kB BK735 hb; replace HB := bS HB hb; (try clear hb); (try clear hb2); (try clear hk); (try clear hi)))
         go_meet
         case rel => exact ⟨_, (true), eS, H', ⟨by have := HJ10.out; first | omega | exact Nat.le_refl _⟩, ⟨by (with_reducible repeat (first | apply Kd.R_alloc | apply Kd.R_drewN | apply Kd.R_drew)); exact Kd.R_mono HO_721000.out (fun _ hk => ⟨hk.1, ⟨hk.2.1, ⟨hk.2.2.1, ⟨hk.2.2.2.1, hk.2.2.2.2.1⟩⟩⟩⟩)⟩, ⟨by (with_reducible repeat (first | apply Kd.R_alloc | apply Kd.R_drewN | apply Kd.R_drew)); exact Kd.R_mono HO_721001.out (fun _ hk => ⟨hk.1, ⟨hk.2.1, ⟨hk.2.2.1, ⟨hk.2.2.2.1, hk.2.2.2.2.1⟩⟩⟩⟩)⟩, ⟨by (with_reducible repeat (first | apply Kd.R_alloc | apply Kd.R_drewN | apply Kd.R_drew)); exact Kd.R_mono HO_728000.out (fun _ hk => ⟨hk.1.1.1, ⟨hk.1.1.2.1, ⟨hk.1.1.2.2.1, ⟨hk.1.1.2.2.2.1, hk.1.1.2.2.2.2⟩⟩⟩⟩)⟩, ⟨by (with_reducible repeat (first | apply Kd.R_alloc | apply Kd.R_drewN | apply Kd.R_drew)); exact Kd.R_mono HO_728001.out (fun _ hk => ⟨hk.1.1.1, ⟨hk.1.1.2.1, ⟨hk.1.1.2.2.1, ⟨hk.1.1.2.2.2.1, hk.1.1.2.2.2.2⟩⟩⟩⟩)⟩, ⟨by (with_reducible repeat (first | apply Kd.R_alloc | apply Kd.R_drewN | apply Kd.R_drew)); exact Kd.R_mono HO_736000.out (fun _ hk => ⟨hk.1, ⟨hk.2.1, ⟨hk.2.2.1, ⟨hk.2.2.2.1, hk.2.2.2.2.1⟩⟩⟩⟩)⟩, ⟨by (with_reducible repeat (first | apply Kd.R_alloc | apply Kd.R_drewN | apply Kd.R_drew)); exact Kd.R_mono HO_736001.out (fun _ hk => ⟨hk.1, ⟨hk.2.1, ⟨hk.2.2.1, ⟨hk.2.2.2.1, hk.2.2.2.2.1⟩⟩⟩⟩)⟩, ⟨kP BK705⟩, ⟨kP BK720⟩, ⟨kP BK727⟩, ⟨kP BK735⟩, ⟨bP HB⟩⟩
      case rest =>
       clear HC64
       try clear c1
       try clear c2
       try clear p2
       try clear c3
       try clear c3b0
       try clear c4
       try clear c5
       try clear c6
       try clear c7
       try clear c8
       try clear c9
       try clear c19
       try clear c21
       try clear c22
       try clear c23
       try clear c26
       try clear c28
       try clear c29
       try clear c30
       try clear c36
       try clear c37
       try clear c38
       try clear c42
       try clear c43
       try clear c44
       try clear c45
       try clear c47
       try clear c48
       try clear c51
       try clear c52
       try clear c53
       try clear c55
       try clear c56
       try clear c59
       try clear c62
       try clear c70
       try clear c71
       try clear c72
       try clear c75
       try clear c75b0
       try clear c77
       try clear c78
       try clear c79
       try clear c80
       try clear c82
       try clear c83
       try clear c86
       try clear c87
       try clear c88
       try clear c90
       try clear c91
       try clear hcz13_0
       try clear hcz13_1
       try clear hcz15_0
       try clear hcz15_1
       try clear hcz23_0
       try clear hcz23_1
       try clear hcz25_0
       try clear hcz25_1
       try clear hcz31_0
       try clear hcz31_1
       try clear hcz39_0
       try clear hcz39_1
       try clear hcz46_0
       try clear hcz46_1
       try clear hcz49_0
       try clear hcz49_1
       try clear hcz54_0
       try clear hcz54_1
       try clear hcz57_0
       try clear hcz57_1
       try clear hcz5_0
       try clear hcz5_1
       try clear hcz73_0
       try clear hcz73_1
       try clear hcz81_0
       try clear hcz81_1
       try clear hcz84_0
       try clear hcz84_1
       try clear hcz89_0
       try clear hcz89_1
       try clear hcz92_0
       try clear hcz92_1
       try clear hfz13_0
       try clear hfz13_1
       try clear hfz15_0
       try clear hfz15_1
       try clear hfz23_0
       try clear hfz23_1
       try clear hfz25_0
       try clear hfz25_1
       try clear hfz31_0
       try clear hfz31_1
       try clear hfz39_0
       try clear hfz39_1
       try clear hfz46_0
       try clear hfz46_1
       try clear hfz49_0
       try clear hfz49_1
       try clear hfz54_0
       try clear hfz54_1
       try clear hfz57_0
       try clear hfz57_1
       try clear hfz5_0
       try clear hfz5_1
       try clear hfz73_0
       try clear hfz73_1
       try clear hfz81_0
       try clear hfz81_1
       try clear hfz84_0
       try clear hfz84_1
       try clear hfz89_0
       try clear hfz89_1
       try clear hfz92_0
       try clear hfz92_1
       try clear p2
       obtain ⟨kq, x61_63, rfl, HA, HJ63, HO_721000, HO_721001, HO_728000, HO_728001, HO_736000, HO_736001, BK705, BK720, BK727, BK735, HB⟩ := hcut
       have hl728000_63 := (Kd.R_reads' HO_728000.out).1
       rw [hl728000_63] at HO_728000
       (try simp only [hl728000_63])
       (try simp only [hl728000_63] at BK705)
       (try simp only [hl728000_63] at BK720)
       (try simp only [hl728000_63] at BK727)
       (try simp only [hl728000_63] at BK735)
       (try simp only [hl728000_63] at HO_721000)
       (try simp only [hl728000_63] at HO_721001)
       (try simp only [hl728000_63] at HO_728001)
       (try simp only [hl728000_63] at HO_736000)
       (try simp only [hl728000_63] at HO_736001)
       have hl728001_63 := (Kd.R_reads' HO_728001.out).1
       rw [hl728001_63] at HO_728001
       (try simp only [hl728001_63])
       (try simp only [hl728001_63] at BK705)
       (try simp only [hl728001_63] at BK720)
       (try simp only [hl728001_63] at BK727)
       (try simp only [hl728001_63] at BK735)
       (try simp only [hl728001_63] at HO_721000)
       (try simp only [hl728001_63] at HO_721001)
       (try simp only [hl728001_63] at HO_728000)
       (try simp only [hl728001_63] at HO_736000)
       (try simp only [hl728001_63] at HO_736001)
       cases kq with
       | zero => exact absurd HA.out (by simp [laws_FnExactMapLeast.j1])
       | succ kj63 =>
        have H := HA.out
        clear HA
        simp only [laws_FnExactMapLeast.j1] at H
        by_cases c94 : x61_63 = true
        ·subst c94
         have H1 : (some false) = some r := by rw [if_pos rfl] at H; exact H
         clear H
         have H := H1
         clear H1
         exact absurd ((Option.some.inj H).trans hr_.out) (by decide)
        ·replace c94 := Bool.eq_false_iff.mpr c94
         subst c94
         have H1 : ((laws_markMap.f kj63 t728 t731 1).bind fun bt748 => ((laws_heldMap.f kj63 bt748.2.1 bt748.2.2 1).bind fun t751 => (if t751 < 0 then (some false) else (if t751 = bt748.1 then ((laws_toMap.f kj63 l0_0 l0_1).bind fun bt752 => ((impl_MapLeast.f kj63 bt752.1 bt752.2).bind fun bt758 => ((laws_eqMap.f kj63 bt758.1 bt758.2.1 t713 t716).bind fun t766 => (if t766 = true then (laws_FnExactMapLeast.j2 kj63 bt748.1 (bt758.2.2 != t719) bt748.2.1 bt748.2.2) else (laws_FnExactMapLeast.j2 kj63 bt748.1 true bt748.2.1 bt748.2.2))))) else (some false))))) = some r := by rw [if_neg (show ¬ (false = true) by decide)] at H; exact H
         clear H
         have H := H1
         clear H1
         replace H := Option.bind_eq_some_iff.mp H
         obtain ⟨⟨t748, t749, t750⟩, A950, H⟩ := H
         replace H : ((laws_heldMap.f kj63 t749 t750 1).bind fun t751 => (if t751 < 0 then (some false) else (if t751 = t748 then ((laws_toMap.f kj63 l0_0 l0_1).bind fun bt752 => ((impl_MapLeast.f kj63 bt752.1 bt752.2).bind fun bt758 => ((laws_eqMap.f kj63 bt758.1 bt758.2.1 t713 t716).bind fun t766 => (if t766 = true then (laws_FnExactMapLeast.j2 kj63 t748 (bt758.2.2 != t719) t749 t750) else (laws_FnExactMapLeast.j2 kj63 t748 true t749 t750))))) else (some false)))) = some r := H
         have A95 := Aside0.mk A950
         clear A950
         replace H := Option.bind_eq_some_iff.mp H
         obtain ⟨t751, A960, H⟩ := H
         replace H : (if t751 < 0 then (some false) else (if t751 = t748 then ((laws_toMap.f kj63 l0_0 l0_1).bind fun bt752 => ((impl_MapLeast.f kj63 bt752.1 bt752.2).bind fun bt758 => ((laws_eqMap.f kj63 bt758.1 bt758.2.1 t713 t716).bind fun t766 => (if t766 = true then (laws_FnExactMapLeast.j2 kj63 t748 (bt758.2.2 != t719) t749 t750) else (laws_FnExactMapLeast.j2 kj63 t748 true t749 t750))))) else (some false))) = some r := H
         have A96 := Aside0.mk A960
         clear A960
         by_cases c97 : t751 < 0
         ·rw [if_pos c97] at H
          have c97b0 : decide (t751 < 0) = true := decide_eq_true c97
          clear c97
          exact absurd ((Option.some.inj H).trans hr_.out) (by decide)
         ·rw [if_neg c97] at H
          have c97b0 : decide (t751 < 0) = false := decide_eq_false c97
          clear c97
          by_cases c98 : t751 = t748
          ·rw [if_pos c98] at H
           have c98b0 : (t751 == t748) = true := beq_iff_eq.mpr c98
           have c98b1 : (t751 != t748) = false := bne_eq_false_iff_eq.mpr c98
           clear c98
           replace H := Option.bind_eq_some_iff.mp H
           obtain ⟨⟨t752, t755⟩, A990, H⟩ := H
           replace H : ((impl_MapLeast.f kj63 t752 t755).bind fun bt758 => ((laws_eqMap.f kj63 bt758.1 bt758.2.1 t713 t716).bind fun t766 => (if t766 = true then (laws_FnExactMapLeast.j2 kj63 t748 (bt758.2.2 != t719) t749 t750) else (laws_FnExactMapLeast.j2 kj63 t748 true t749 t750)))) = some r := H
           have A99 := Aside0.mk A990
           clear A990
           replace H := Option.bind_eq_some_iff.mp H
           obtain ⟨⟨t758, t761, t764⟩, A1000, H⟩ := H
           replace H : ((laws_eqMap.f kj63 t758 t761 t713 t716).bind fun t766 => (if t766 = true then (laws_FnExactMapLeast.j2 kj63 t748 (t764 != t719) t749 t750) else (laws_FnExactMapLeast.j2 kj63 t748 true t749 t750))) = some r := H
           have A100 := Aside0.mk A1000
           clear A1000
           have HC101 := Aside0.mk H
           clear H
           have hnb102 := NB735_705.out
           have hnc102 := NB705_735.out
           have hnb103 := NB735_720.out
           have hnc103 := NB720_735.out
           have hnb104 := NB735_727.out
           have hnc104 := NB727_735.out
           have hcz105_0 := zc0 BK735
           have hcz105_1 := zc1 BK735
           have hfz105_0 := blk_frozen BK735.out 0
           have hfz105_1 := blk_frozen BK735.out 1
           go_upto_region 25 with (first | ((with_reducible refine gate_callee (f := 26) rfl ?_); refine gL (some 64) Try.func26 #[.agg #[.slice Ao35 t728.length co35, .slice Ao40 t731.length co40], .int .i64 1] ?_; (with_reducible refine (laws_markMap.calls kj63 (fun k_ => some k_ = (.slice Ao35 t728.length co35 : Value).ownBlock) (.slice Ao35 t728.length co35) t728 (fun k_ => some k_ = (.slice Ao40 t731.length co40 : Value).ownBlock) (.slice Ao40 t731.length co40) t731 1 t748 t749 t750 w _ ?side1 ?side2 ?side3 ?side4 ?side5 A95.out).mono ?_); (case side1 => exact bP HB); (case side2 => exact Kd.R_tight rfl HO_736000.out); (case side3 => exact fun k_ e_ => (HO_736000.out.1 k_ e_.symm).2.2.2.2); (case side4 => exact Kd.R_tight rfl HO_736001.out); (case side5 => exact fun k_ e_ => (HO_736001.out.1 k_ e_.symm).2.2.2.2); rintro e w106 ⟨rfl, hy0, hy1, hb, hkp⟩; refine ⟨_, rfl, ?_⟩; replace HO_721000 := Aside0.mk (Kd.R_mono (ok' := fun k_ => some k_ ≠ (.slice Ao24 t716.length co24 : Value).ownBlock ∧ some k_ ≠ (.slice Ao28 t745.length co28 : Value).ownBlock ∧ some k_ ≠ (.slice Ao32 t746.length co32 : Value).ownBlock ∧ some k_ ≠ (.slice Ao35 t728.length co35 : Value).ownBlock ∧ some k_ ≠ (.slice Ao40 t731.length co40 : Value).ownBlock) (Kd.R_keptB (HO_721000.out) hkp (fun k_ hk_ hs_ => Or.elim hs_ (fun e_ => (hk_.2.2.2.1) e_) (fun e_ => (hk_.2.2.2.2) e_))) (fun k_ hk_ => ⟨hk_.1.1, hk_.1.2.1, hk_.1.2.2.1, hk_.1.2.2.2.1, hk_.1.2.2.2.2⟩)); replace HO_721001 := Aside0.mk (Kd.R_mono (ok' := fun k_ => some k_ ≠ (.slice Ao21 t713.length co21 : Value).ownBlock ∧ some k_ ≠ (.slice Ao28 t745.length co28 : Value).ownBlock ∧ some k_ ≠ (.slice Ao32 t746.length co32 : Value).ownBlock ∧ some k_ ≠ (.slice Ao35 t728.length co35 : Value).ownBlock ∧ some k_ ≠ (.slice Ao40 t731.length co40 : Value).ownBlock) (Kd.R_keptB (HO_721001.out) hkp (fun k_ hk_ hs_ => Or.elim hs_ (fun e_ => (hk_.2.2.2.1) e_) (fun e_ => (hk_.2.2.2.2) e_))) (fun k_ hk_ => ⟨hk_.1.1, hk_.1.2.1, hk_.1.2.2.1, hk_.1.2.2.2.1, hk_.1.2.2.2.2⟩)); replace HO_728000 := Aside0.mk (Kd.R_mono (ok' := fun k_ => some k_ ≠ (.slice Ao21 t713.length co21 : Value).ownBlock ∧ some k_ ≠ (.slice Ao24 t716.length co24 : Value).ownBlock ∧ some k_ ≠ (.slice Ao32 t746.length co32 : Value).ownBlock ∧ some k_ ≠ (.slice Ao35 t728.length co35 : Value).ownBlock ∧ some k_ ≠ (.slice Ao40 t731.length co40 : Value).ownBlock) (Kd.R_keptB (HO_728000.out) hkp (fun k_ hk_ hs_ => Or.elim hs_ (fun e_ => (hk_.2.2.2.1) e_) (fun e_ => (hk_.2.2.2.2) e_))) (fun k_ hk_ => ⟨hk_.1.1, hk_.1.2.1, hk_.1.2.2.1, hk_.1.2.2.2.1, hk_.1.2.2.2.2⟩)); replace HO_728001 := Aside0.mk (Kd.R_mono (ok' := fun k_ => some k_ ≠ (.slice Ao21 t713.length co21 : Value).ownBlock ∧ some k_ ≠ (.slice Ao24 t716.length co24 : Value).ownBlock ∧ some k_ ≠ (.slice Ao28 t745.length co28 : Value).ownBlock ∧ some k_ ≠ (.slice Ao35 t728.length co35 : Value).ownBlock ∧ some k_ ≠ (.slice Ao40 t731.length co40 : Value).ownBlock) (Kd.R_keptB (HO_728001.out) hkp (fun k_ hk_ hs_ => Or.elim hs_ (fun e_ => (hk_.2.2.2.1) e_) (fun e_ => (hk_.2.2.2.2) e_))) (fun k_ hk_ => ⟨hk_.1.1, hk_.1.2.1, hk_.1.2.2.1, hk_.1.2.2.2.1, hk_.1.2.2.2.2⟩)); replace BK705 := Aside0.mk (blk_kept (kP BK705) hkp (fun hs_ => Or.elim hs_ (fun e_ => (fun e_ => (Kd.R_ne HO_736000.out BK705.out (by decide)) e_) e_) (fun e_ => (fun e_ => (Kd.R_ne HO_736001.out BK705.out (by decide)) e_) e_))); replace BK720 := Aside0.mk (blk_kept (kP BK720) hkp (fun hs_ => Or.elim hs_ (fun e_ => (fun e_ => (Kd.R_ne HO_736000.out BK720.out (by decide)) e_) e_) (fun e_ => (fun e_ => (Kd.R_ne HO_736001.out BK720.out (by decide)) e_) e_))); replace BK727 := Aside0.mk (blk_kept (kP BK727) hkp (fun hs_ => Or.elim hs_ (fun e_ => (fun e_ => (Kd.R_ne HO_736000.out BK727.out (by decide)) e_) e_) (fun e_ => (fun e_ => (Kd.R_ne HO_736001.out BK727.out (by decide)) e_) e_))); replace BK735 := Aside0.mk (blk_kept (kP BK735) hkp (fun hs_ => Or.elim hs_ (fun e_ => (fun e_ => (Kd.R_ne HO_736000.out BK735.out (by decide)) e_) e_) (fun e_ => (fun e_ => (Kd.R_ne HO_736001.out BK735.out (by decide)) e_) e_))); replace HO_736000 := Aside0.mk (Kd.R_reok rfl hy0 (fun k_ e_ => HO_736000.out.1 k_ e_)); replace HO_736001 := Aside0.mk (Kd.R_reok rfl hy1 (fun k_ e_ => HO_736001.out.1 k_ e_)); replace HB := Aside0.mk (hb); (try clear hb); (try clear hkp); (try clear hy0); (try clear hy1); have hcz107_0 := zc0 BK735; have hcz107_1 := zc1 BK735; have hfz107_0 := blk_frozen BK735.out 0; have hfz107_1 := blk_frozen BK735.out 1) | ((with_reducible refine gate_callee (f := 27) rfl ?_); refine goesL_ (some 67) rfl rfl Try.func27 (by kernel_rfl) rfl #[.agg #[.slice Ao35 t749.length co35, .slice Ao40 t750.length co40], .int .i64 1] rfl (by (try simp only [List.map_toArray, List.map_cons, List.map_nil]); first | done | (rw [show t749.length = t728.length from (Kd.R_reads' HO_736000.out).1.symm, show t750.length = t731.length from (Kd.R_reads' HO_736001.out).1.symm] <;> rfl) | rfl | (simp only [List.length_drop, List.length_take]; rfl)) ?_; (with_reducible refine (laws_heldMap.calls kj63 _ _ t749 _ _ t750 1 t751 _ ?side1 ?side2 ?side3 ?side4 A96.out).mono ?_); (case side1 => exact cP (Kd.R_reads' HO_736000.out).2.2); (case side2 => rw [show t749.length = t728.length from (Kd.R_reads' HO_736000.out).1.symm]; exact (Kd.R_reads' HO_736000.out).2.1); (case side3 => exact cP (Kd.R_reads' HO_736001.out).2.2); (case side4 => rw [show t750.length = t731.length from (Kd.R_reads' HO_736001.out).1.symm]; exact (Kd.R_reads' HO_736001.out).2.1); rintro e w108 ⟨rfl, hb⟩; refine ⟨_, rfl, ?_⟩; replace HO_721000 := rB HO_721000 hb; replace HO_721001 := rB HO_721001 hb; replace HO_728000 := rB HO_728000 hb; replace HO_728001 := rB HO_728001 hb; replace HO_736000 := rB HO_736000 hb; replace HO_736001 := rB HO_736001 hb; replace BK705 := kB BK705 hb; replace BK720 := kB BK720 hb; replace BK727 := kB BK727 hb; replace BK735 := kB BK735 hb; replace HB := bS HB hb; (try clear hb); (try clear hb2); (try clear hk); (try clear hi); have hnb109 := NB705_720.out; have hnc109 := NB720_705.out; have hnb110 := NB705_727.out; have hnc110 := NB727_705.out; have hcz111_0 := zc0 BK705; have hcz111_1 := zc1 BK705; have hfz111_0 := blk_frozen BK705.out 0; have hfz111_1 := blk_frozen BK705.out 1) | ((with_reducible refine gate_callee (f := 21) rfl ?_); refine gL (some 75) Try.func21 #[.agg #[.slice A0_0 l0_0.length c0_0, .slice A0_1 l0_1.length c0_1]] ?_; (with_reducible refine (laws_toMap.calls kj63 _ _ l0_0 _ _ l0_1 t752 t755 _ ?side1 ?side2 ?side3 ?side4 A99.out).mono ?_); (case side1 => exact cB HR0_0 HB); (case side2 => exact HC0_0.out); (case side3 => exact cB HR0_1 HB); (case side4 => exact HC0_1.out); rintro e w112 ⟨v753, v756, rfl, ho0, ho1, hb⟩; refine ⟨_, rfl, ?_⟩; have HO754 := Aside0.mk (Kd.R_lower (Kd.R_new' (Kd.R_new' (Kd.R_new' (Kd.R_new' (Kd.R_new' (Kd.R_new' ho0 (Kd.R_lt (rP HO_721000))) (Kd.R_lt (rP HO_721001))) (Kd.R_lt (rP HO_728000))) (Kd.R_lt (rP HO_728001))) (Kd.R_lt (rP HO_736000))) (Kd.R_lt (rP HO_736001))) (below_size (bP HB))); have HO757 := Aside0.mk (Kd.R_lower (Kd.R_new' (Kd.R_new' (Kd.R_new' (Kd.R_new' (Kd.R_new' (Kd.R_new' ho1 (Kd.R_lt (rP HO_721000))) (Kd.R_lt (rP HO_721001))) (Kd.R_lt (rP HO_728000))) (Kd.R_lt (rP HO_728001))) (Kd.R_lt (rP HO_736000))) (Kd.R_lt (rP HO_736001))) (below_size (bP HB))); replace HO_721000 := Aside0.mk (Kd.R_mono (Kd.R_told (Kd.R_told (Kd.R_old (rP HO_721000) hb) (Kd.R_base ho0)) (Kd.R_base ho1)) (fun _ h_ => h_.1)); replace HO_721001 := Aside0.mk (Kd.R_mono (Kd.R_told (Kd.R_told (Kd.R_old (rP HO_721001) hb) (Kd.R_base ho0)) (Kd.R_base ho1)) (fun _ h_ => h_.1)); replace HO_728000 := Aside0.mk (Kd.R_mono (Kd.R_told (Kd.R_told (Kd.R_old (rP HO_728000) hb) (Kd.R_base ho0)) (Kd.R_base ho1)) (fun _ h_ => h_.1)); replace HO_728001 := Aside0.mk (Kd.R_mono (Kd.R_told (Kd.R_told (Kd.R_old (rP HO_728001) hb) (Kd.R_base ho0)) (Kd.R_base ho1)) (fun _ h_ => h_.1)); replace HO_736000 := Aside0.mk (Kd.R_mono (Kd.R_told (Kd.R_told (Kd.R_old (rP HO_736000) hb) (Kd.R_base ho0)) (Kd.R_base ho1)) (fun _ h_ => h_.1)); replace HO_736001 := Aside0.mk (Kd.R_mono (Kd.R_told (Kd.R_told (Kd.R_old (rP HO_736001) hb) (Kd.R_base ho0)) (Kd.R_base ho1)) (fun _ h_ => h_.1)); replace BK705 := kB BK705 hb; replace BK720 := kB BK720 hb; replace BK727 := kB BK727 hb; replace BK735 := kB BK735 hb; replace HB := bS HB hb; (try clear hb); (try clear hb2); (try clear hk); (try clear hi); (try clear ho0); (try clear ho1); obtain ⟨Ao113, co113, eo113⟩ := Kd.R_slice HO754.out; subst eo113; obtain ⟨Ao114, co114, eo114⟩ := Kd.R_slice HO757.out; subst eo114) | ((with_reducible refine gate_callee (f := 29) rfl ?_); refine gL (some 76) Try.func29 #[.agg #[.slice Ao113 t752.length co113, .slice Ao114 t755.length co114]] ?_; (with_reducible refine (impl_MapLeast.calls kj63 _ _ t752 _ _ t755 t758 t761 t764 _ ?side1 ?side2 ?side3 ?side4 A100.out).mono ?_); (case side1 => exact cP (Kd.R_reads' HO754.out).2.2); (case side2 => exact (Kd.R_reads' HO754.out).2.1); (case side3 => exact cP (Kd.R_reads' HO757.out).2.2); (case side4 => exact (Kd.R_reads' HO757.out).2.1); rintro e w115 ⟨v759, v762, rfl, ho0, ho1, hb⟩; refine ⟨_, rfl, ?_⟩; have HO760 := Aside0.mk (Kd.R_lower (Kd.R_new' (Kd.R_new' (Kd.R_new' (Kd.R_new' (Kd.R_new' (Kd.R_new' (Kd.R_new' (Kd.R_new' ho0 (Kd.R_lt (rP HO_721000))) (Kd.R_lt (rP HO_721001))) (Kd.R_lt (rP HO_728000))) (Kd.R_lt (rP HO_728001))) (Kd.R_lt (rP HO_736000))) (Kd.R_lt (rP HO_736001))) (Kd.R_lt (rP HO754))) (Kd.R_lt (rP HO757))) (below_size (bP HB))); have HO763 := Aside0.mk (Kd.R_lower (Kd.R_new' (Kd.R_new' (Kd.R_new' (Kd.R_new' (Kd.R_new' (Kd.R_new' (Kd.R_new' (Kd.R_new' ho1 (Kd.R_lt (rP HO_721000))) (Kd.R_lt (rP HO_721001))) (Kd.R_lt (rP HO_728000))) (Kd.R_lt (rP HO_728001))) (Kd.R_lt (rP HO_736000))) (Kd.R_lt (rP HO_736001))) (Kd.R_lt (rP HO754))) (Kd.R_lt (rP HO757))) (below_size (bP HB))); replace HO_721000 := Aside0.mk (Kd.R_mono (Kd.R_told (Kd.R_told (Kd.R_old (rP HO_721000) hb) (Kd.R_base ho0)) (Kd.R_base ho1)) (fun _ h_ => h_.1)); replace HO_721001 := Aside0.mk (Kd.R_mono (Kd.R_told (Kd.R_told (Kd.R_old (rP HO_721001) hb) (Kd.R_base ho0)) (Kd.R_base ho1)) (fun _ h_ => h_.1)); replace HO_728000 := Aside0.mk (Kd.R_mono (Kd.R_told (Kd.R_told (Kd.R_old (rP HO_728000) hb) (Kd.R_base ho0)) (Kd.R_base ho1)) (fun _ h_ => h_.1)); replace HO_728001 := Aside0.mk (Kd.R_mono (Kd.R_told (Kd.R_told (Kd.R_old (rP HO_728001) hb) (Kd.R_base ho0)) (Kd.R_base ho1)) (fun _ h_ => h_.1)); replace HO_736000 := Aside0.mk (Kd.R_mono (Kd.R_told (Kd.R_told (Kd.R_old (rP HO_736000) hb) (Kd.R_base ho0)) (Kd.R_base ho1)) (fun _ h_ => h_.1)); replace HO_736001 := Aside0.mk (Kd.R_mono (Kd.R_told (Kd.R_told (Kd.R_old (rP HO_736001) hb) (Kd.R_base ho0)) (Kd.R_base ho1)) (fun _ h_ => h_.1)); replace HO754 := Aside0.mk (Kd.R_mono (Kd.R_told (Kd.R_told (Kd.R_old (rP HO754) hb) (Kd.R_base ho0)) (Kd.R_base ho1)) (fun _ h_ => h_.1)); replace HO757 := Aside0.mk (Kd.R_mono (Kd.R_told (Kd.R_told (Kd.R_old (rP HO757) hb) (Kd.R_base ho0)) (Kd.R_base ho1)) (fun _ h_ => h_.1)); replace BK705 := kB BK705 hb; replace BK720 := kB BK720 hb; replace BK727 := kB BK727 hb; replace BK735 := kB BK735 hb; replace HB := bS HB hb; (try clear hb); (try clear hb2); (try clear hk); (try clear hi); (try clear ho0); (try clear ho1)) | ((with_reducible refine gate_dst (N := 12) rfl ?_); refine bE 12 #[.slice none 0 0, .slice none 0 0] 40 ?_; intro gb765 hg w116 hbox hb; replace HO_721000 := rB HO_721000 hb; replace HO_721001 := rB HO_721001 hb; replace HO_728000 := rB HO_728000 hb; replace HO_728001 := rB HO_728001 hb; replace HO_736000 := rB HO_736000 hb; replace HO_736001 := rB HO_736001 hb; replace HO754 := rB HO754 hb; replace HO757 := rB HO757 hb; replace HO760 := rB HO760 hb; replace HO763 := rB HO763 hb; have BK765 := Aside0.mk (hbox); have GW765 := gS HB hg; have GE765 := gS HB hg; replace HB := bS HB hb; have NB705_765 := nL BK705 hg; have NB765_705 := nG BK705 hg; replace BK705 := kB BK705 hb; have NB720_765 := nL BK720 hg; have NB765_720 := nG BK720 hg; replace BK720 := kB BK720 hb; have NB727_765 := nL BK727 hg; have NB765_727 := nG BK727 hg; replace BK727 := kB BK727 hb; have NB735_765 := nL BK735 hg; have NB765_735 := nG BK735 hg; replace BK735 := kB BK735 hb; clear hb hbox hg; obtain ⟨Ao117, co117, eo117⟩ := Kd.R_slice HO760.out; subst eo117; have hnb118 := NB765_705.out; have hnc118 := NB705_765.out; have hnb119 := NB765_720.out; have hnc119 := NB720_765.out; have hnb120 := NB765_727.out; have hnc120 := NB727_765.out; have hnb121 := NB765_735.out; have hnc121 := NB735_765.out; have hcz122_0 := zc0 BK765; have hcz122_1 := zc1 BK765; have hfz122_0 := blk_frozen BK765.out 0; have hfz122_1 := blk_frozen BK765.out 1; obtain ⟨Ao123, co123, eo123⟩ := Kd.R_slice HO763.out; subst eo123))
           (try simp only [Act.put, List.setIfInBounds_toArray, List.set_cons_zero, List.set_cons_succ])
           go_cut [87] (fun v87 wc => ∃ (kq : Nat) (x87_100 : Bool), v87 = .bool x87_100 ∧ Aside0 (laws_FnExactMapLeast.j2 kq t748 x87_100 t749 t750 = some r) ∧ Aside0 (kq ≤ kj63) ∧ Aside0 (Kd.R (Kd.int .i64) 3 wc w.heap.size (fun k_ => some k_ ≠ ((.slice Ao24 t716.length co24) : Value).ownBlock ∧ some k_ ≠ ((.slice Ao28 t745.length co28) : Value).ownBlock ∧ some k_ ≠ ((.slice Ao32 t746.length co32) : Value).ownBlock ∧ some k_ ≠ ((.slice Ao35 t728.length co35) : Value).ownBlock ∧ some k_ ≠ ((.slice Ao40 t731.length co40) : Value).ownBlock ∧ some k_ ≠ ((.slice Ao117 t758.length co117) : Value).ownBlock ∧ some k_ ≠ ((.slice Ao123 t761.length co123) : Value).ownBlock) (.slice Ao21 t713.length co21) t713) ∧ Aside0 (Kd.R (Kd.int .i64) 3 wc w.heap.size (fun k_ => some k_ ≠ ((.slice Ao21 t713.length co21) : Value).ownBlock ∧ some k_ ≠ ((.slice Ao28 t745.length co28) : Value).ownBlock ∧ some k_ ≠ ((.slice Ao32 t746.length co32) : Value).ownBlock ∧ some k_ ≠ ((.slice Ao35 t728.length co35) : Value).ownBlock ∧ some k_ ≠ ((.slice Ao40 t731.length co40) : Value).ownBlock ∧ some k_ ≠ ((.slice Ao117 t758.length co117) : Value).ownBlock ∧ some k_ ≠ ((.slice Ao123 t761.length co123) : Value).ownBlock) (.slice Ao24 t716.length co24) t716) ∧ Aside0 (Kd.R (Kd.int .i64) 3 wc w.heap.size (fun k_ => some k_ ≠ ((.slice Ao21 t713.length co21) : Value).ownBlock ∧ some k_ ≠ ((.slice Ao24 t716.length co24) : Value).ownBlock ∧ some k_ ≠ ((.slice Ao32 t746.length co32) : Value).ownBlock ∧ some k_ ≠ ((.slice Ao35 t728.length co35) : Value).ownBlock ∧ some k_ ≠ ((.slice Ao40 t731.length co40) : Value).ownBlock ∧ some k_ ≠ ((.slice Ao117 t758.length co117) : Value).ownBlock ∧ some k_ ≠ ((.slice Ao123 t761.length co123) : Value).ownBlock) (.slice Ao28 t745.length co28) t745) ∧ Aside0 (Kd.R (Kd.int .i64) 3 wc w.heap.size (fun k_ => some k_ ≠ ((.slice Ao21 t713.length co21) : Value).ownBlock ∧ some k_ ≠ ((.slice Ao24 t716.length co24) : Value).ownBlock ∧ some k_ ≠ ((.slice Ao28 t745.length co28) : Value).ownBlock ∧ some k_ ≠ ((.slice Ao35 t728.length co35) : Value).ownBlock ∧ some k_ ≠ ((.slice Ao40 t731.length co40) : Value).ownBlock ∧ some k_ ≠ ((.slice Ao117 t758.length co117) : Value).ownBlock ∧ some k_ ≠ ((.slice Ao123 t761.length co123) : Value).ownBlock) (.slice Ao32 t746.length co32) t746) ∧ Aside0 (Kd.R (Kd.int .i64) 3 wc w.heap.size (fun k_ => some k_ ≠ ((.slice Ao21 t713.length co21) : Value).ownBlock ∧ some k_ ≠ ((.slice Ao24 t716.length co24) : Value).ownBlock ∧ some k_ ≠ ((.slice Ao28 t745.length co28) : Value).ownBlock ∧ some k_ ≠ ((.slice Ao32 t746.length co32) : Value).ownBlock ∧ some k_ ≠ ((.slice Ao40 t731.length co40) : Value).ownBlock ∧ some k_ ≠ ((.slice Ao117 t758.length co117) : Value).ownBlock ∧ some k_ ≠ ((.slice Ao123 t761.length co123) : Value).ownBlock) (.slice Ao35 t728.length co35) t749) ∧ Aside0 (Kd.R (Kd.int .i64) 3 wc w.heap.size (fun k_ => some k_ ≠ ((.slice Ao21 t713.length co21) : Value).ownBlock ∧ some k_ ≠ ((.slice Ao24 t716.length co24) : Value).ownBlock ∧ some k_ ≠ ((.slice Ao28 t745.length co28) : Value).ownBlock ∧ some k_ ≠ ((.slice Ao32 t746.length co32) : Value).ownBlock ∧ some k_ ≠ ((.slice Ao35 t728.length co35) : Value).ownBlock ∧ some k_ ≠ ((.slice Ao117 t758.length co117) : Value).ownBlock ∧ some k_ ≠ ((.slice Ao123 t761.length co123) : Value).ownBlock) (.slice Ao40 t731.length co40) t750) ∧ Aside0 (Kd.R (Kd.int .i64) 3 wc w.heap.size (fun k_ => some k_ ≠ ((.slice Ao21 t713.length co21) : Value).ownBlock ∧ some k_ ≠ ((.slice Ao24 t716.length co24) : Value).ownBlock ∧ some k_ ≠ ((.slice Ao28 t745.length co28) : Value).ownBlock ∧ some k_ ≠ ((.slice Ao32 t746.length co32) : Value).ownBlock ∧ some k_ ≠ ((.slice Ao35 t728.length co35) : Value).ownBlock ∧ some k_ ≠ ((.slice Ao40 t731.length co40) : Value).ownBlock ∧ some k_ ≠ ((.slice Ao123 t761.length co123) : Value).ownBlock) (.slice Ao117 t758.length co117) t758) ∧ Aside0 (Kd.R (Kd.int .i64) 3 wc w.heap.size (fun k_ => some k_ ≠ ((.slice Ao21 t713.length co21) : Value).ownBlock ∧ some k_ ≠ ((.slice Ao24 t716.length co24) : Value).ownBlock ∧ some k_ ≠ ((.slice Ao28 t745.length co28) : Value).ownBlock ∧ some k_ ≠ ((.slice Ao32 t746.length co32) : Value).ownBlock ∧ some k_ ≠ ((.slice Ao35 t728.length co35) : Value).ownBlock ∧ some k_ ≠ ((.slice Ao40 t731.length co40) : Value).ownBlock ∧ some k_ ≠ ((.slice Ao117 t758.length co117) : Value).ownBlock) (.slice Ao123 t761.length co123) t761) ∧ Aside0 (wc.heap[gb705]? = some (.cells #[(.slice A0_0 l0_0.length c0_0), (.slice A0_1 l0_1.length c0_1)] 37 (0, 0))) ∧ Aside0 (wc.heap[gb720]? = some (.cells #[(.slice Ao21 t713.length co21), (.slice Ao24 t716.length co24)] 40 (0, 0))) ∧ Aside0 (wc.heap[gb727]? = some (.cells #[(.slice Ao28 t745.length co28), (.slice Ao32 t746.length co32)] 40 (0, 0))) ∧ Aside0 (wc.heap[gb735]? = some (.cells #[(.slice Ao35 t728.length co35), (.slice Ao40 t731.length co40)] 40 (0, 0))) ∧ Aside0 (wc.heap[gb765]? = some (.cells #[(.slice Ao117 t758.length co117), (.slice Ao123 t761.length co123)] 40 (0, 0))) ∧ Aside0 (Below w.heap.size w wc))
           case first =>
            have H := HC101.out
            clear HC101
            replace H := Option.bind_eq_some_iff.mp H
            obtain ⟨t766, A1240, H⟩ := H
            replace H : (if t766 = true then (laws_FnExactMapLeast.j2 kj63 t748 (t764 != t719) t749 t750) else (laws_FnExactMapLeast.j2 kj63 t748 true t749 t750)) = some r := H
            have A124 := Aside0.mk A1240
            clear A1240
            by_cases c125 : t766 = true
            ·subst c125
             have H1 : (laws_FnExactMapLeast.j2 kj63 t748 (t764 != t719) t749 t750) = some r := by rw [if_pos rfl] at H; exact H
             clear H
             have H := H1
             clear H1
             have H' := Aside0.mk H
             clear H
             have hnb126 := NB765_705.out
             have hnc126 := NB705_765.out
             have hnb127 := NB765_720.out
             have hnc127 := NB720_765.out
             have hnb128 := NB765_727.out
             have hnc128 := NB727_765.out
             have hnb129 := NB765_735.out
             have hnc129 := NB735_765.out
             have hcz130_0 := zc0 BK765
             have hcz130_1 := zc1 BK765
             have hfz130_0 := blk_frozen BK765.out 0
             have hfz130_1 := blk_frozen BK765.out 1
             have hnb131 := NB720_705.out
             have hnc131 := NB705_720.out
             have hnb132 := NB720_727.out
             have hnc132 := NB727_720.out
             have hnb133 := NB720_735.out
             have hnc133 := NB735_720.out
             have hcz134_0 := zc0 BK720
             have hcz134_1 := zc1 BK720
             have hfz134_0 := blk_frozen BK720.out 0
             have hfz134_1 := blk_frozen BK720.out 1
             go_wp2_with (first | ((with_reducible refine gate_callee (f := 23) rfl ?_); refine gL (some 81) Try.func23 #[.agg #[.slice Ao117 t758.length co117, .slice Ao123 t761.length co123], .agg #[.slice Ao21 t713.length co21, .slice Ao24 t716.length co24]] ?_; (with_reducible refine (laws_eqMap.calls kj63 _ _ t758 _ _ t761 _ _ t713 _ _ t716 true _ ?side1 ?side2 ?side3 ?side4 ?side5 ?side6 ?side7 ?side8 A124.out).mono ?_); (case side1 => refine (Kd.R_reads' (e := 3) (base := w.heap.size) (ok := fun k_ => ((((((((some k_ ≠ (.slice Ao123 t761.length co123 : Value).ownBlock ∧ some k_ ≠ (.slice Ao21 t713.length co21 : Value).ownBlock) ∧ some k_ ≠ (.slice Ao24 t716.length co24 : Value).ownBlock) ∧ some k_ ≠ (.slice Ao28 t745.length co28 : Value).ownBlock) ∧ some k_ ≠ (.slice Ao32 t746.length co32 : Value).ownBlock) ∧ some k_ ≠ (.slice Ao35 t728.length co35 : Value).ownBlock) ∧ some k_ ≠ (.slice Ao40 t731.length co40 : Value).ownBlock) ∧ some k_ ≠ (.slice Ao113 t752.length co113 : Value).ownBlock) ∧ some k_ ≠ (.slice Ao114 t755.length co114 : Value).ownBlock)) (n := t758.length) (c := co117) ?_).2.2; exact (rT (Kd.R_mono (Kd.R_far (p := ⟨gb765, 1, none⟩) (Kd.R_far (p := ⟨gb765, 0, none⟩) (Kd.R_types HO760.out BK765.out (by decide)) (fun _ hk => hk.2) (.slice Ao117 t758.length co117)) (fun _ hk => hk.2) (.slice Ao123 t761.length co123)) (fun _ h_ => h_.1)))); (case side2 => exact (Kd.R_reads' HO760.out).2.1); (case side3 => refine (Kd.R_reads' (e := 3) (base := w.heap.size) (ok := fun k_ => ((((((((some k_ ≠ (.slice Ao117 t758.length co117 : Value).ownBlock ∧ some k_ ≠ (.slice Ao21 t713.length co21 : Value).ownBlock) ∧ some k_ ≠ (.slice Ao24 t716.length co24 : Value).ownBlock) ∧ some k_ ≠ (.slice Ao28 t745.length co28 : Value).ownBlock) ∧ some k_ ≠ (.slice Ao32 t746.length co32 : Value).ownBlock) ∧ some k_ ≠ (.slice Ao35 t728.length co35 : Value).ownBlock) ∧ some k_ ≠ (.slice Ao40 t731.length co40 : Value).ownBlock) ∧ some k_ ≠ (.slice Ao113 t752.length co113 : Value).ownBlock) ∧ some k_ ≠ (.slice Ao114 t755.length co114 : Value).ownBlock)) (n := t761.length) (c := co123) ?_).2.2; exact (rT (Kd.R_mono (Kd.R_far (p := ⟨gb765, 1, none⟩) (Kd.R_far (p := ⟨gb765, 0, none⟩) (Kd.R_types HO763.out BK765.out (by decide)) (fun _ hk => hk.2) (.slice Ao117 t758.length co117)) (fun _ hk => hk.2) (.slice Ao123 t761.length co123)) (fun _ h_ => h_.1)))); (case side4 => exact (Kd.R_reads' HO763.out).2.1); (case side5 => refine (Kd.R_reads' (e := 3) (base := w.heap.size) (ok := fun k_ => (((((some k_ ≠ (.slice Ao24 t716.length co24 : Value).ownBlock ∧ (some k_ ≠ (.slice Ao28 t745.length co28 : Value).ownBlock ∧ (some k_ ≠ (.slice Ao32 t746.length co32 : Value).ownBlock ∧ (some k_ ≠ (.slice Ao35 t728.length co35 : Value).ownBlock ∧ some k_ ≠ (.slice Ao40 t731.length co40 : Value).ownBlock)))) ∧ some k_ ≠ (.slice Ao113 t752.length co113 : Value).ownBlock) ∧ some k_ ≠ (.slice Ao114 t755.length co114 : Value).ownBlock) ∧ some k_ ≠ (.slice Ao117 t758.length co117 : Value).ownBlock) ∧ some k_ ≠ (.slice Ao123 t761.length co123 : Value).ownBlock)) (n := t713.length) (c := co21) ?_).2.2; exact (rT (Kd.R_mono (Kd.R_far (p := ⟨gb765, 1, none⟩) (Kd.R_far (p := ⟨gb765, 0, none⟩) (Kd.R_types HO_721000.out BK765.out (by decide)) (fun _ hk => hk.2) (.slice Ao117 t758.length co117)) (fun _ hk => hk.2) (.slice Ao123 t761.length co123)) (fun _ h_ => h_.1)))); (case side6 => exact (Kd.R_reads' HO_721000.out).2.1); (case side7 => refine (Kd.R_reads' (e := 3) (base := w.heap.size) (ok := fun k_ => (((((some k_ ≠ (.slice Ao21 t713.length co21 : Value).ownBlock ∧ (some k_ ≠ (.slice Ao28 t745.length co28 : Value).ownBlock ∧ (some k_ ≠ (.slice Ao32 t746.length co32 : Value).ownBlock ∧ (some k_ ≠ (.slice Ao35 t728.length co35 : Value).ownBlock ∧ some k_ ≠ (.slice Ao40 t731.length co40 : Value).ownBlock)))) ∧ some k_ ≠ (.slice Ao113 t752.length co113 : Value).ownBlock) ∧ some k_ ≠ (.slice Ao114 t755.length co114 : Value).ownBlock) ∧ some k_ ≠ (.slice Ao117 t758.length co117 : Value).ownBlock) ∧ some k_ ≠ (.slice Ao123 t761.length co123 : Value).ownBlock)) (n := t716.length) (c := co24) ?_).2.2; exact (rT (Kd.R_mono (Kd.R_far (p := ⟨gb765, 1, none⟩) (Kd.R_far (p := ⟨gb765, 0, none⟩) (Kd.R_types HO_721001.out BK765.out (by decide)) (fun _ hk => hk.2) (.slice Ao117 t758.length co117)) (fun _ hk => hk.2) (.slice Ao123 t761.length co123)) (fun _ h_ => h_.1)))); (case side8 => exact (Kd.R_reads' HO_721001.out).2.1); rintro e w135 ⟨rfl, hb⟩; refine ⟨_, rfl, ?_⟩; replace HO_721000 := Aside0.mk (Kd.R_below (rT (Kd.R_mono (Kd.R_far (p := ⟨gb765, 1, none⟩) (Kd.R_far (p := ⟨gb765, 0, none⟩) (Kd.R_types HO_721000.out BK765.out (by decide)) (fun _ hk => hk.2) (.slice Ao117 t758.length co117)) (fun _ hk => hk.2) (.slice Ao123 t761.length co123)) (fun _ h_ => h_.1))) hb); replace HO_721001 := Aside0.mk (Kd.R_below (rT (Kd.R_mono (Kd.R_far (p := ⟨gb765, 1, none⟩) (Kd.R_far (p := ⟨gb765, 0, none⟩) (Kd.R_types HO_721001.out BK765.out (by decide)) (fun _ hk => hk.2) (.slice Ao117 t758.length co117)) (fun _ hk => hk.2) (.slice Ao123 t761.length co123)) (fun _ h_ => h_.1))) hb); replace HO_728000 := Aside0.mk (Kd.R_below (rT (Kd.R_mono (Kd.R_far (p := ⟨gb765, 1, none⟩) (Kd.R_far (p := ⟨gb765, 0, none⟩) (Kd.R_types HO_728000.out BK765.out (by decide)) (fun _ hk => hk.2) (.slice Ao117 t758.length co117)) (fun _ hk => hk.2) (.slice Ao123 t761.length co123)) (fun _ h_ => h_.1))) hb); replace HO_728001 := Aside0.mk (Kd.R_below (rT (Kd.R_mono (Kd.R_far (p := ⟨gb765, 1, none⟩) (Kd.R_far (p := ⟨gb765, 0, none⟩) (Kd.R_types HO_728001.out BK765.out (by decide)) (fun _ hk => hk.2) (.slice Ao117 t758.length co117)) (fun _ hk => hk.2) (.slice Ao123 t761.length co123)) (fun _ h_ => h_.1))) hb); replace HO_736000 := Aside0.mk (Kd.R_below (rT (Kd.R_mono (Kd.R_far (p := ⟨gb765, 1, none⟩) (Kd.R_far (p := ⟨gb765, 0, none⟩) (Kd.R_types HO_736000.out BK765.out (by decide)) (fun _ hk => hk.2) (.slice Ao117 t758.length co117)) (fun _ hk => hk.2) (.slice Ao123 t761.length co123)) (fun _ h_ => h_.1))) hb); replace HO_736001 := Aside0.mk (Kd.R_below (rT (Kd.R_mono (Kd.R_far (p := ⟨gb765, 1, none⟩) (Kd.R_far (p := ⟨gb765, 0, none⟩) (Kd.R_types HO_736001.out BK765.out (by decide)) (fun _ hk => hk.2) (.slice Ao117 t758.length co117)) (fun _ hk => hk.2) (.slice Ao123 t761.length co123)) (fun _ h_ => h_.1))) hb); replace HO754 := Aside0.mk (Kd.R_below (rT (Kd.R_mono (Kd.R_far (p := ⟨gb765, 1, none⟩) (Kd.R_far (p := ⟨gb765, 0, none⟩) (Kd.R_types HO754.out BK765.out (by decide)) (fun _ hk => hk.2) (.slice Ao117 t758.length co117)) (fun _ hk => hk.2) (.slice Ao123 t761.length co123)) (fun _ h_ => h_.1))) hb); replace HO757 := Aside0.mk (Kd.R_below (rT (Kd.R_mono (Kd.R_far (p := ⟨gb765, 1, none⟩) (Kd.R_far (p := ⟨gb765, 0, none⟩) (Kd.R_types HO757.out BK765.out (by decide)) (fun _ hk => hk.2) (.slice Ao117 t758.length co117)) (fun _ hk => hk.2) (.slice Ao123 t761.length co123)) (fun _ h_ => h_.1))) hb); replace HO760 := Aside0.mk (Kd.R_below (rT (Kd.R_mono (Kd.R_far (p := ⟨gb765, 1, none⟩) (Kd.R_far (p := ⟨gb765, 0, none⟩) (Kd.R_types HO760.out BK765.out (by decide)) (fun _ hk => hk.2) (.slice Ao117 t758.length co117)) (fun _ hk => hk.2) (.slice Ao123 t761.length co123)) (fun _ h_ => h_.1))) hb); replace HO763 := Aside0.mk (Kd.R_below (rT (Kd.R_mono (Kd.R_far (p := ⟨gb765, 1, none⟩) (Kd.R_far (p := ⟨gb765, 0, none⟩) (Kd.R_types HO763.out BK765.out (by decide)) (fun _ hk => hk.2) (.slice Ao117 t758.length co117)) (fun _ hk => hk.2) (.slice Ao123 t761.length co123)) (fun _ h_ => h_.1))) hb); replace BK705 := kG BK705 hb; replace BK720 := kG BK720 hb; replace BK727 := kG BK727 hb; replace BK735 := kG BK735 hb; replace BK765 := Aside0.mk (blk_below (g := gb765) (o := .cells #[.slice Ao117 t758.length co117, .slice Ao123 t761.length co123] 40 (0, 0)) (by (with_reducible repeat (first | refine blk_drewN ?_ _ | refine blk_drew ?_ | refine blk_alloc ?_ _)); refine blk_put (cs := #[.slice Ao117 t758.length co117, .slice none 0 0]) ?_ 1 _ rfl; (with_reducible repeat (first | refine blk_drewN ?_ _ | refine blk_drew ?_ | refine blk_alloc ?_ _)); refine blk_put (cs := #[.slice none 0 0, .slice none 0 0]) ?_ 0 _ rfl; (with_reducible repeat (first | refine blk_drewN ?_ _ | refine blk_drew ?_ | refine blk_alloc ?_ _)); exact BK765.out) hb); replace HB := bS HB hb; (try clear hb); (try clear hb2); (try clear hk); (try clear hi)))
             go_meet
             case rel => exact ⟨_, ((t764 != t719)), eS, H', ⟨by have := HJ10.out; have := HJ63.out; first | omega | exact Nat.le_refl _⟩, ⟨by (try simp only [hl728000_63]); (try simp only [hl728001_63]); (with_reducible repeat (first | apply Kd.R_alloc | apply Kd.R_drewN | apply Kd.R_drew)); exact Kd.R_mono HO_721000.out (fun _ hk => ⟨hk.1.1.1.1.1, ⟨hk.1.1.1.1.2.1, ⟨hk.1.1.1.1.2.2.1, ⟨hk.1.1.1.1.2.2.2.1, ⟨hk.1.1.1.1.2.2.2.2, ⟨hk.1.2, hk.2⟩⟩⟩⟩⟩⟩)⟩, ⟨by (try simp only [hl728000_63]); (try simp only [hl728001_63]); (with_reducible repeat (first | apply Kd.R_alloc | apply Kd.R_drewN | apply Kd.R_drew)); exact Kd.R_mono HO_721001.out (fun _ hk => ⟨hk.1.1.1.1.1, ⟨hk.1.1.1.1.2.1, ⟨hk.1.1.1.1.2.2.1, ⟨hk.1.1.1.1.2.2.2.1, ⟨hk.1.1.1.1.2.2.2.2, ⟨hk.1.2, hk.2⟩⟩⟩⟩⟩⟩)⟩, ⟨by (try simp only [hl728000_63]); (try simp only [hl728001_63]); (with_reducible repeat (first | apply Kd.R_alloc | apply Kd.R_drewN | apply Kd.R_drew)); exact Kd.R_mono HO_728000.out (fun _ hk => ⟨hk.1.1.1.1.1, ⟨hk.1.1.1.1.2.1, ⟨hk.1.1.1.1.2.2.1, ⟨hk.1.1.1.1.2.2.2.1, ⟨hk.1.1.1.1.2.2.2.2, ⟨hk.1.2, hk.2⟩⟩⟩⟩⟩⟩)⟩, ⟨by (try simp only [hl728000_63]); (try simp only [hl728001_63]); (with_reducible repeat (first | apply Kd.R_alloc | apply Kd.R_drewN | apply Kd.R_drew)); exact Kd.R_mono HO_728001.out (fun _ hk => ⟨hk.1.1.1.1.1, ⟨hk.1.1.1.1.2.1, ⟨hk.1.1.1.1.2.2.1, ⟨hk.1.1.1.1.2.2.2.1, ⟨hk.1.1.1.1.2.2.2.2, ⟨hk.1.2, hk.2⟩⟩⟩⟩⟩⟩)⟩, ⟨by (try simp only [hl728000_63]); (try simp only [hl728001_63]); (with_reducible repeat (first | apply Kd.R_alloc | apply Kd.R_drewN | apply Kd.R_drew)); exact Kd.R_mono HO_736000.out (fun _ hk => ⟨hk.1.1.1.1.1, ⟨hk.1.1.1.1.2.1, ⟨hk.1.1.1.1.2.2.1, ⟨hk.1.1.1.1.2.2.2.1, ⟨hk.1.1.1.1.2.2.2.2, ⟨hk.1.2, hk.2⟩⟩⟩⟩⟩⟩)⟩, ⟨by (try simp only [hl728000_63]); (try simp only [hl728001_63]); (with_reducible repeat (first | apply Kd.R_alloc | apply Kd.R_drewN | apply Kd.R_drew)); exact Kd.R_mono HO_736001.out (fun _ hk => ⟨hk.1.1.1.1.1, ⟨hk.1.1.1.1.2.1, ⟨hk.1.1.1.1.2.2.1, ⟨hk.1.1.1.1.2.2.2.1, ⟨hk.1.1.1.1.2.2.2.2, ⟨hk.1.2, hk.2⟩⟩⟩⟩⟩⟩)⟩, ⟨by (try simp only [hl728000_63]); (try simp only [hl728001_63]); (with_reducible repeat (first | apply Kd.R_alloc | apply Kd.R_drewN | apply Kd.R_drew)); exact Kd.R_mono HO760.out (fun _ hk => ⟨hk.1.1.1.1.1.1.1.2, ⟨hk.1.1.1.1.1.1.2, ⟨hk.1.1.1.1.1.2, ⟨hk.1.1.1.1.2, ⟨hk.1.1.1.2, ⟨hk.1.1.2, hk.1.1.1.1.1.1.1.1⟩⟩⟩⟩⟩⟩)⟩, ⟨by (try simp only [hl728000_63]); (try simp only [hl728001_63]); (with_reducible repeat (first | apply Kd.R_alloc | apply Kd.R_drewN | apply Kd.R_drew)); exact Kd.R_mono HO763.out (fun _ hk => ⟨hk.1.1.1.1.1.1.1.2, ⟨hk.1.1.1.1.1.1.2, ⟨hk.1.1.1.1.1.2, ⟨hk.1.1.1.1.2, ⟨hk.1.1.1.2, ⟨hk.1.1.2, hk.1.1.1.1.1.1.1.1⟩⟩⟩⟩⟩⟩)⟩, ⟨by (try simp only [hl728000_63]); (try simp only [hl728001_63]); (with_reducible repeat (first | refine blk_drewN ?_ _ | refine blk_drew ?_ | refine blk_alloc ?_ _)); exact BK705.out⟩, ⟨by (try simp only [hl728000_63]); (try simp only [hl728001_63]); (with_reducible repeat (first | refine blk_drewN ?_ _ | refine blk_drew ?_ | refine blk_alloc ?_ _)); exact BK720.out⟩, ⟨by (try simp only [hl728000_63]); (try simp only [hl728001_63]); (with_reducible repeat (first | refine blk_drewN ?_ _ | refine blk_drew ?_ | refine blk_alloc ?_ _)); exact BK727.out⟩, ⟨by (try simp only [hl728000_63]); (try simp only [hl728001_63]); (with_reducible repeat (first | refine blk_drewN ?_ _ | refine blk_drew ?_ | refine blk_alloc ?_ _)); exact BK735.out⟩, ⟨by (try simp only [hl728000_63]); (try simp only [hl728001_63]); (with_reducible repeat (first | refine blk_drewN ?_ _ | refine blk_drew ?_ | refine blk_alloc ?_ _)); exact BK765.out⟩, ⟨bP HB⟩⟩
            ·replace c125 := Bool.eq_false_iff.mpr c125
             subst c125
             have H1 : (laws_FnExactMapLeast.j2 kj63 t748 true t749 t750) = some r := by rw [if_neg (show ¬ (false = true) by decide)] at H; exact H
             clear H
             have H := H1
             clear H1
             have H' := Aside0.mk H
             clear H
             have hnb136 := NB765_705.out
             have hnc136 := NB705_765.out
             have hnb137 := NB765_720.out
             have hnc137 := NB720_765.out
             have hnb138 := NB765_727.out
             have hnc138 := NB727_765.out
             have hnb139 := NB765_735.out
             have hnc139 := NB735_765.out
             have hcz140_0 := zc0 BK765
             have hcz140_1 := zc1 BK765
             have hfz140_0 := blk_frozen BK765.out 0
             have hfz140_1 := blk_frozen BK765.out 1
             have hnb141 := NB720_705.out
             have hnc141 := NB705_720.out
             have hnb142 := NB720_727.out
             have hnc142 := NB727_720.out
             have hnb143 := NB720_735.out
             have hnc143 := NB735_720.out
             have hcz144_0 := zc0 BK720
             have hcz144_1 := zc1 BK720
             have hfz144_0 := blk_frozen BK720.out 0
             have hfz144_1 := blk_frozen BK720.out 1
             go_wp2_with (first | ((with_reducible refine gate_callee (f := 23) rfl ?_); refine gL (some 81) Try.func23 #[.agg #[.slice Ao117 t758.length co117, .slice Ao123 t761.length co123], .agg #[.slice Ao21 t713.length co21, .slice Ao24 t716.length co24]] ?_; (with_reducible refine (laws_eqMap.calls kj63 _ _ t758 _ _ t761 _ _ t713 _ _ t716 false _ ?side1 ?side2 ?side3 ?side4 ?side5 ?side6 ?side7 ?side8 A124.out).mono ?_); (case side1 => refine (Kd.R_reads' (e := 3) (base := w.heap.size) (ok := fun k_ => ((((((((some k_ ≠ (.slice Ao123 t761.length co123 : Value).ownBlock ∧ some k_ ≠ (.slice Ao21 t713.length co21 : Value).ownBlock) ∧ some k_ ≠ (.slice Ao24 t716.length co24 : Value).ownBlock) ∧ some k_ ≠ (.slice Ao28 t745.length co28 : Value).ownBlock) ∧ some k_ ≠ (.slice Ao32 t746.length co32 : Value).ownBlock) ∧ some k_ ≠ (.slice Ao35 t728.length co35 : Value).ownBlock) ∧ some k_ ≠ (.slice Ao40 t731.length co40 : Value).ownBlock) ∧ some k_ ≠ (.slice Ao113 t752.length co113 : Value).ownBlock) ∧ some k_ ≠ (.slice Ao114 t755.length co114 : Value).ownBlock)) (n := t758.length) (c := co117) ?_).2.2; exact (rT (Kd.R_mono (Kd.R_far (p := ⟨gb765, 1, none⟩) (Kd.R_far (p := ⟨gb765, 0, none⟩) (Kd.R_types HO760.out BK765.out (by decide)) (fun _ hk => hk.2) (.slice Ao117 t758.length co117)) (fun _ hk => hk.2) (.slice Ao123 t761.length co123)) (fun _ h_ => h_.1)))); (case side2 => exact (Kd.R_reads' HO760.out).2.1); (case side3 => refine (Kd.R_reads' (e := 3) (base := w.heap.size) (ok := fun k_ => ((((((((some k_ ≠ (.slice Ao117 t758.length co117 : Value).ownBlock ∧ some k_ ≠ (.slice Ao21 t713.length co21 : Value).ownBlock) ∧ some k_ ≠ (.slice Ao24 t716.length co24 : Value).ownBlock) ∧ some k_ ≠ (.slice Ao28 t745.length co28 : Value).ownBlock) ∧ some k_ ≠ (.slice Ao32 t746.length co32 : Value).ownBlock) ∧ some k_ ≠ (.slice Ao35 t728.length co35 : Value).ownBlock) ∧ some k_ ≠ (.slice Ao40 t731.length co40 : Value).ownBlock) ∧ some k_ ≠ (.slice Ao113 t752.length co113 : Value).ownBlock) ∧ some k_ ≠ (.slice Ao114 t755.length co114 : Value).ownBlock)) (n := t761.length) (c := co123) ?_).2.2; exact (rT (Kd.R_mono (Kd.R_far (p := ⟨gb765, 1, none⟩) (Kd.R_far (p := ⟨gb765, 0, none⟩) (Kd.R_types HO763.out BK765.out (by decide)) (fun _ hk => hk.2) (.slice Ao117 t758.length co117)) (fun _ hk => hk.2) (.slice Ao123 t761.length co123)) (fun _ h_ => h_.1)))); (case side4 => exact (Kd.R_reads' HO763.out).2.1); (case side5 => refine (Kd.R_reads' (e := 3) (base := w.heap.size) (ok := fun k_ => (((((some k_ ≠ (.slice Ao24 t716.length co24 : Value).ownBlock ∧ (some k_ ≠ (.slice Ao28 t745.length co28 : Value).ownBlock ∧ (some k_ ≠ (.slice Ao32 t746.length co32 : Value).ownBlock ∧ (some k_ ≠ (.slice Ao35 t728.length co35 : Value).ownBlock ∧ some k_ ≠ (.slice Ao40 t731.length co40 : Value).ownBlock)))) ∧ some k_ ≠ (.slice Ao113 t752.length co113 : Value).ownBlock) ∧ some k_ ≠ (.slice Ao114 t755.length co114 : Value).ownBlock) ∧ some k_ ≠ (.slice Ao117 t758.length co117 : Value).ownBlock) ∧ some k_ ≠ (.slice Ao123 t761.length co123 : Value).ownBlock)) (n := t713.length) (c := co21) ?_).2.2; exact (rT (Kd.R_mono (Kd.R_far (p := ⟨gb765, 1, none⟩) (Kd.R_far (p := ⟨gb765, 0, none⟩) (Kd.R_types HO_721000.out BK765.out (by decide)) (fun _ hk => hk.2) (.slice Ao117 t758.length co117)) (fun _ hk => hk.2) (.slice Ao123 t761.length co123)) (fun _ h_ => h_.1)))); (case side6 => exact (Kd.R_reads' HO_721000.out).2.1); (case side7 => refine (Kd.R_reads' (e := 3) (base := w.heap.size) (ok := fun k_ => (((((some k_ ≠ (.slice Ao21 t713.length co21 : Value).ownBlock ∧ (some k_ ≠ (.slice Ao28 t745.length co28 : Value).ownBlock ∧ (some k_ ≠ (.slice Ao32 t746.length co32 : Value).ownBlock ∧ (some k_ ≠ (.slice Ao35 t728.length co35 : Value).ownBlock ∧ some k_ ≠ (.slice Ao40 t731.length co40 : Value).ownBlock)))) ∧ some k_ ≠ (.slice Ao113 t752.length co113 : Value).ownBlock) ∧ some k_ ≠ (.slice Ao114 t755.length co114 : Value).ownBlock) ∧ some k_ ≠ (.slice Ao117 t758.length co117 : Value).ownBlock) ∧ some k_ ≠ (.slice Ao123 t761.length co123 : Value).ownBlock)) (n := t716.length) (c := co24) ?_).2.2; exact (rT (Kd.R_mono (Kd.R_far (p := ⟨gb765, 1, none⟩) (Kd.R_far (p := ⟨gb765, 0, none⟩) (Kd.R_types HO_721001.out BK765.out (by decide)) (fun _ hk => hk.2) (.slice Ao117 t758.length co117)) (fun _ hk => hk.2) (.slice Ao123 t761.length co123)) (fun _ h_ => h_.1)))); (case side8 => exact (Kd.R_reads' HO_721001.out).2.1); rintro e w145 ⟨rfl, hb⟩; refine ⟨_, rfl, ?_⟩; replace HO_721000 := Aside0.mk (Kd.R_below (rT (Kd.R_mono (Kd.R_far (p := ⟨gb765, 1, none⟩) (Kd.R_far (p := ⟨gb765, 0, none⟩) (Kd.R_types HO_721000.out BK765.out (by decide)) (fun _ hk => hk.2) (.slice Ao117 t758.length co117)) (fun _ hk => hk.2) (.slice Ao123 t761.length co123)) (fun _ h_ => h_.1))) hb); replace HO_721001 := Aside0.mk (Kd.R_below (rT (Kd.R_mono (Kd.R_far (p := ⟨gb765, 1, none⟩) (Kd.R_far (p := ⟨gb765, 0, none⟩) (Kd.R_types HO_721001.out BK765.out (by decide)) (fun _ hk => hk.2) (.slice Ao117 t758.length co117)) (fun _ hk => hk.2) (.slice Ao123 t761.length co123)) (fun _ h_ => h_.1))) hb); replace HO_728000 := Aside0.mk (Kd.R_below (rT (Kd.R_mono (Kd.R_far (p := ⟨gb765, 1, none⟩) (Kd.R_far (p := ⟨gb765, 0, none⟩) (Kd.R_types HO_728000.out BK765.out (by decide)) (fun _ hk => hk.2) (.slice Ao117 t758.length co117)) (fun _ hk => hk.2) (.slice Ao123 t761.length co123)) (fun _ h_ => h_.1))) hb); replace HO_728001 := Aside0.mk (Kd.R_below (rT (Kd.R_mono (Kd.R_far (p := ⟨gb765, 1, none⟩) (Kd.R_far (p := ⟨gb765, 0, none⟩) (Kd.R_types HO_728001.out BK765.out (by decide)) (fun _ hk => hk.2) (.slice Ao117 t758.length co117)) (fun _ hk => hk.2) (.slice Ao123 t761.length co123)) (fun _ h_ => h_.1))) hb); replace HO_736000 := Aside0.mk (Kd.R_below (rT (Kd.R_mono (Kd.R_far (p := ⟨gb765, 1, none⟩) (Kd.R_far (p := ⟨gb765, 0, none⟩) (Kd.R_types HO_736000.out BK765.out (by decide)) (fun _ hk => hk.2) (.slice Ao117 t758.length co117)) (fun _ hk => hk.2) (.slice Ao123 t761.length co123)) (fun _ h_ => h_.1))) hb); replace HO_736001 := Aside0.mk (Kd.R_below (rT (Kd.R_mono (Kd.R_far (p := ⟨gb765, 1, none⟩) (Kd.R_far (p := ⟨gb765, 0, none⟩) (Kd.R_types HO_736001.out BK765.out (by decide)) (fun _ hk => hk.2) (.slice Ao117 t758.length co117)) (fun _ hk => hk.2) (.slice Ao123 t761.length co123)) (fun _ h_ => h_.1))) hb); replace HO754 := Aside0.mk (Kd.R_below (rT (Kd.R_mono (Kd.R_far (p := ⟨gb765, 1, none⟩) (Kd.R_far (p := ⟨gb765, 0, none⟩) (Kd.R_types HO754.out BK765.out (by decide)) (fun _ hk => hk.2) (.slice Ao117 t758.length co117)) (fun _ hk => hk.2) (.slice Ao123 t761.length co123)) (fun _ h_ => h_.1))) hb); replace HO757 := Aside0.mk (Kd.R_below (rT (Kd.R_mono (Kd.R_far (p := ⟨gb765, 1, none⟩) (Kd.R_far (p := ⟨gb765, 0, none⟩) (Kd.R_types HO757.out BK765.out (by decide)) (fun _ hk => hk.2) (.slice Ao117 t758.length co117)) (fun _ hk => hk.2) (.slice Ao123 t761.length co123)) (fun _ h_ => h_.1))) hb); replace HO760 := Aside0.mk (Kd.R_below (rT (Kd.R_mono (Kd.R_far (p := ⟨gb765, 1, none⟩) (Kd.R_far (p := ⟨gb765, 0, none⟩) (Kd.R_types HO760.out BK765.out (by decide)) (fun _ hk => hk.2) (.slice Ao117 t758.length co117)) (fun _ hk => hk.2) (.slice Ao123 t761.length co123)) (fun _ h_ => h_.1))) hb); replace HO763 := Aside0.mk (Kd.R_below (rT (Kd.R_mono (Kd.R_far (p := ⟨gb765, 1, none⟩) (Kd.R_far (p := ⟨gb765, 0, none⟩) (Kd.R_types HO763.out BK765.out (by decide)) (fun _ hk => hk.2) (.slice Ao117 t758.length co117)) (fun _ hk => hk.2) (.slice Ao123 t761.length co123)) (fun _ h_ => h_.1))) hb); replace BK705 := kG BK705 hb; replace BK720 := kG BK720 hb; replace BK727 := kG BK727 hb; replace BK735 := kG BK735 hb; replace BK765 := Aside0.mk (blk_below (g := gb765) (o := .cells #[.slice Ao117 t758.length co117, .slice Ao123 t761.length co123] 40 (0, 0)) (by (with_reducible repeat (first | refine blk_drewN ?_ _ | refine blk_drew ?_ | refine blk_alloc ?_ _)); refine blk_put (cs := #[.slice Ao117 t758.length co117, .slice none 0 0]) ?_ 1 _ rfl; (with_reducible repeat (first | refine blk_drewN ?_ _ | refine blk_drew ?_ | refine blk_alloc ?_ _)); refine blk_put (cs := #[.slice none 0 0, .slice none 0 0]) ?_ 0 _ rfl; (with_reducible repeat (first | refine blk_drewN ?_ _ | refine blk_drew ?_ | refine blk_alloc ?_ _)); exact BK765.out) hb); replace HB := bS HB hb; (try clear hb); (try clear hb2); (try clear hk); (try clear hi)))
             go_meet
             case rel => exact ⟨_, (true), eS, H', ⟨by have := HJ10.out; have := HJ63.out; first | omega | exact Nat.le_refl _⟩, ⟨by (try simp only [hl728000_63]); (try simp only [hl728001_63]); (with_reducible repeat (first | apply Kd.R_alloc | apply Kd.R_drewN | apply Kd.R_drew)); exact Kd.R_mono HO_721000.out (fun _ hk => ⟨hk.1.1.1.1.1, ⟨hk.1.1.1.1.2.1, ⟨hk.1.1.1.1.2.2.1, ⟨hk.1.1.1.1.2.2.2.1, ⟨hk.1.1.1.1.2.2.2.2, ⟨hk.1.2, hk.2⟩⟩⟩⟩⟩⟩)⟩, ⟨by (try simp only [hl728000_63]); (try simp only [hl728001_63]); (with_reducible repeat (first | apply Kd.R_alloc | apply Kd.R_drewN | apply Kd.R_drew)); exact Kd.R_mono HO_721001.out (fun _ hk => ⟨hk.1.1.1.1.1, ⟨hk.1.1.1.1.2.1, ⟨hk.1.1.1.1.2.2.1, ⟨hk.1.1.1.1.2.2.2.1, ⟨hk.1.1.1.1.2.2.2.2, ⟨hk.1.2, hk.2⟩⟩⟩⟩⟩⟩)⟩, ⟨by (try simp only [hl728000_63]); (try simp only [hl728001_63]); (with_reducible repeat (first | apply Kd.R_alloc | apply Kd.R_drewN | apply Kd.R_drew)); exact Kd.R_mono HO_728000.out (fun _ hk => ⟨hk.1.1.1.1.1, ⟨hk.1.1.1.1.2.1, ⟨hk.1.1.1.1.2.2.1, ⟨hk.1.1.1.1.2.2.2.1, ⟨hk.1.1.1.1.2.2.2.2, ⟨hk.1.2, hk.2⟩⟩⟩⟩⟩⟩)⟩, ⟨by (try simp only [hl728000_63]); (try simp only [hl728001_63]); (with_reducible repeat (first | apply Kd.R_alloc | apply Kd.R_drewN | apply Kd.R_drew)); exact Kd.R_mono HO_728001.out (fun _ hk => ⟨hk.1.1.1.1.1, ⟨hk.1.1.1.1.2.1, ⟨hk.1.1.1.1.2.2.1, ⟨hk.1.1.1.1.2.2.2.1, ⟨hk.1.1.1.1.2.2.2.2, ⟨hk.1.2, hk.2⟩⟩⟩⟩⟩⟩)⟩, ⟨by (try simp only [hl728000_63]); (try simp only [hl728001_63]); (with_reducible repeat (first | apply Kd.R_alloc | apply Kd.R_drewN | apply Kd.R_drew)); exact Kd.R_mono HO_736000.out (fun _ hk => ⟨hk.1.1.1.1.1, ⟨hk.1.1.1.1.2.1, ⟨hk.1.1.1.1.2.2.1, ⟨hk.1.1.1.1.2.2.2.1, ⟨hk.1.1.1.1.2.2.2.2, ⟨hk.1.2, hk.2⟩⟩⟩⟩⟩⟩)⟩, ⟨by (try simp only [hl728000_63]); (try simp only [hl728001_63]); (with_reducible repeat (first | apply Kd.R_alloc | apply Kd.R_drewN | apply Kd.R_drew)); exact Kd.R_mono HO_736001.out (fun _ hk => ⟨hk.1.1.1.1.1, ⟨hk.1.1.1.1.2.1, ⟨hk.1.1.1.1.2.2.1, ⟨hk.1.1.1.1.2.2.2.1, ⟨hk.1.1.1.1.2.2.2.2, ⟨hk.1.2, hk.2⟩⟩⟩⟩⟩⟩)⟩, ⟨by (try simp only [hl728000_63]); (try simp only [hl728001_63]); (with_reducible repeat (first | apply Kd.R_alloc | apply Kd.R_drewN | apply Kd.R_drew)); exact Kd.R_mono HO760.out (fun _ hk => ⟨hk.1.1.1.1.1.1.1.2, ⟨hk.1.1.1.1.1.1.2, ⟨hk.1.1.1.1.1.2, ⟨hk.1.1.1.1.2, ⟨hk.1.1.1.2, ⟨hk.1.1.2, hk.1.1.1.1.1.1.1.1⟩⟩⟩⟩⟩⟩)⟩, ⟨by (try simp only [hl728000_63]); (try simp only [hl728001_63]); (with_reducible repeat (first | apply Kd.R_alloc | apply Kd.R_drewN | apply Kd.R_drew)); exact Kd.R_mono HO763.out (fun _ hk => ⟨hk.1.1.1.1.1.1.1.2, ⟨hk.1.1.1.1.1.1.2, ⟨hk.1.1.1.1.1.2, ⟨hk.1.1.1.1.2, ⟨hk.1.1.1.2, ⟨hk.1.1.2, hk.1.1.1.1.1.1.1.1⟩⟩⟩⟩⟩⟩)⟩, ⟨by (try simp only [hl728000_63]); (try simp only [hl728001_63]); (with_reducible repeat (first | refine blk_drewN ?_ _ | refine blk_drew ?_ | refine blk_alloc ?_ _)); exact BK705.out⟩, ⟨by (try simp only [hl728000_63]); (try simp only [hl728001_63]); (with_reducible repeat (first | refine blk_drewN ?_ _ | refine blk_drew ?_ | refine blk_alloc ?_ _)); exact BK720.out⟩, ⟨by (try simp only [hl728000_63]); (try simp only [hl728001_63]); (with_reducible repeat (first | refine blk_drewN ?_ _ | refine blk_drew ?_ | refine blk_alloc ?_ _)); exact BK727.out⟩, ⟨by (try simp only [hl728000_63]); (try simp only [hl728001_63]); (with_reducible repeat (first | refine blk_drewN ?_ _ | refine blk_drew ?_ | refine blk_alloc ?_ _)); exact BK735.out⟩, ⟨by (try simp only [hl728000_63]); (try simp only [hl728001_63]); (with_reducible repeat (first | refine blk_drewN ?_ _ | refine blk_drew ?_ | refine blk_alloc ?_ _)); exact BK765.out⟩, ⟨bP HB⟩⟩
           case rest =>
            clear HC101
            try clear c1
            try clear c2
            try clear p2
            try clear c3
            try clear c3b0
            try clear c4
            try clear c5
            try clear c6
            try clear c7
            try clear c8
            try clear c9
            try clear c10
            try clear c11
            try clear c12
            try clear c13
            try clear c14
            try clear c19
            try clear c21
            try clear c22
            try clear c23
            try clear c26
            try clear c27
            try clear c28
            try clear c29
            try clear c30
            try clear c36
            try clear c37
            try clear c38
            try clear c42
            try clear c43
            try clear c44
            try clear c45
            try clear c47
            try clear c48
            try clear c51
            try clear c52
            try clear c53
            try clear c55
            try clear c56
            try clear c59
            try clear c62
            try clear c70
            try clear c71
            try clear c72
            try clear c75
            try clear c75b0
            try clear c77
            try clear c78
            try clear c79
            try clear c80
            try clear c82
            try clear c83
            try clear c86
            try clear c87
            try clear c88
            try clear c90
            try clear c91
            try clear c94
            try clear c97
            try clear c97b0
            try clear c98
            try clear c98b0
            try clear c98b1
            try clear c102
            try clear c103
            try clear c104
            try clear c109
            try clear c110
            try clear c118
            try clear c119
            try clear c120
            try clear c121
            try clear c125
            try clear c126
            try clear c127
            try clear c128
            try clear c129
            try clear c131
            try clear c132
            try clear c133
            try clear c136
            try clear c137
            try clear c138
            try clear c139
            try clear c141
            try clear c142
            try clear c143
            try clear hcz105_0
            try clear hcz105_1
            try clear hcz107_0
            try clear hcz107_1
            try clear hcz111_0
            try clear hcz111_1
            try clear hcz122_0
            try clear hcz122_1
            try clear hcz130_0
            try clear hcz130_1
            try clear hcz134_0
            try clear hcz134_1
            try clear hcz13_0
            try clear hcz13_1
            try clear hcz140_0
            try clear hcz140_1
            try clear hcz144_0
            try clear hcz144_1
            try clear hcz15_0
            try clear hcz15_1
            try clear hcz23_0
            try clear hcz23_1
            try clear hcz25_0
            try clear hcz25_1
            try clear hcz31_0
            try clear hcz31_1
            try clear hcz39_0
            try clear hcz39_1
            try clear hcz46_0
            try clear hcz46_1
            try clear hcz49_0
            try clear hcz49_1
            try clear hcz54_0
            try clear hcz54_1
            try clear hcz57_0
            try clear hcz57_1
            try clear hcz5_0
            try clear hcz5_1
            try clear hcz73_0
            try clear hcz73_1
            try clear hcz81_0
            try clear hcz81_1
            try clear hcz84_0
            try clear hcz84_1
            try clear hcz89_0
            try clear hcz89_1
            try clear hcz92_0
            try clear hcz92_1
            try clear hfz105_0
            try clear hfz105_1
            try clear hfz107_0
            try clear hfz107_1
            try clear hfz111_0
            try clear hfz111_1
            try clear hfz122_0
            try clear hfz122_1
            try clear hfz130_0
            try clear hfz130_1
            try clear hfz134_0
            try clear hfz134_1
            try clear hfz13_0
            try clear hfz13_1
            try clear hfz140_0
            try clear hfz140_1
            try clear hfz144_0
            try clear hfz144_1
            try clear hfz15_0
            try clear hfz15_1
            try clear hfz23_0
            try clear hfz23_1
            try clear hfz25_0
            try clear hfz25_1
            try clear hfz31_0
            try clear hfz31_1
            try clear hfz39_0
            try clear hfz39_1
            try clear hfz46_0
            try clear hfz46_1
            try clear hfz49_0
            try clear hfz49_1
            try clear hfz54_0
            try clear hfz54_1
            try clear hfz57_0
            try clear hfz57_1
            try clear hfz5_0
            try clear hfz5_1
            try clear hfz73_0
            try clear hfz73_1
            try clear hfz81_0
            try clear hfz81_1
            try clear hfz84_0
            try clear hfz84_1
            try clear hfz89_0
            try clear hfz89_1
            try clear hfz92_0
            try clear hfz92_1
            try clear p2
            obtain ⟨kq, x87_100, rfl, HA, HJ100, HO_721000, HO_721001, HO_728000, HO_728001, HO_736000, HO_736001, HO_766000, HO_766001, BK705, BK720, BK727, BK735, BK765, HB⟩ := hcut
            have hl736000_100 := (Kd.R_reads' HO_736000.out).1
            rw [hl736000_100] at HO_736000
            (try simp only [hl736000_100])
            (try simp only [hl736000_100] at BK705)
            (try simp only [hl736000_100] at BK720)
            (try simp only [hl736000_100] at BK727)
            (try simp only [hl736000_100] at BK735)
            (try simp only [hl736000_100] at BK765)
            (try simp only [hl736000_100] at HO_721000)
            (try simp only [hl736000_100] at HO_721001)
            (try simp only [hl736000_100] at HO_728000)
            (try simp only [hl736000_100] at HO_728001)
            (try simp only [hl736000_100] at HO_736001)
            (try simp only [hl736000_100] at HO_766000)
            (try simp only [hl736000_100] at HO_766001)
            have hl736001_100 := (Kd.R_reads' HO_736001.out).1
            rw [hl736001_100] at HO_736001
            (try simp only [hl736001_100])
            (try simp only [hl736001_100] at BK705)
            (try simp only [hl736001_100] at BK720)
            (try simp only [hl736001_100] at BK727)
            (try simp only [hl736001_100] at BK735)
            (try simp only [hl736001_100] at BK765)
            (try simp only [hl736001_100] at HO_721000)
            (try simp only [hl736001_100] at HO_721001)
            (try simp only [hl736001_100] at HO_728000)
            (try simp only [hl736001_100] at HO_728001)
            (try simp only [hl736001_100] at HO_736000)
            (try simp only [hl736001_100] at HO_766000)
            (try simp only [hl736001_100] at HO_766001)
            cases kq with
            | zero => exact absurd HA.out (by simp [laws_FnExactMapLeast.j2])
            | succ kj100 =>
             have H := HA.out
             clear HA
             simp only [laws_FnExactMapLeast.j2] at H
             by_cases c146 : x87_100 = true
             ·subst c146
              have H1 : (some false) = some r := by rw [if_pos rfl] at H; exact H
              clear H
              have H := H1
              clear H1
              exact absurd ((Option.some.inj H).trans hr_.out) (by decide)
             ·replace c146 := Bool.eq_false_iff.mpr c146
              subst c146
              have H1 : ((laws_heldMap.f kj100 t749 t750 1).bind fun t767 => (if t767 < 0 then (some false) else (if t767 = t748 then (some true) else (some false)))) = some r := by rw [if_neg (show ¬ (false = true) by decide)] at H; exact H
              clear H
              have H := H1
              clear H1
              replace H := Option.bind_eq_some_iff.mp H
              obtain ⟨t767, A1470, H⟩ := H
              replace H : (if t767 < 0 then (some false) else (if t767 = t748 then (some true) else (some false))) = some r := H
              have A147 := Aside0.mk A1470
              clear A1470
              by_cases c148 : t767 < 0
              ·rw [if_pos c148] at H
               have c148b0 : decide (t767 < 0) = true := decide_eq_true c148
               clear c148
               exact absurd ((Option.some.inj H).trans hr_.out) (by decide)
              ·rw [if_neg c148] at H
               have c148b0 : decide (t767 < 0) = false := decide_eq_false c148
               clear c148
               by_cases c149 : t767 = t748
               ·rw [if_pos c149] at H
                have c149b0 : (t767 == t748) = true := beq_iff_eq.mpr c149
                have c149b1 : (t767 != t748) = false := bne_eq_false_iff_eq.mpr c149
                clear c149
                obtain rfl := Option.some.inj H
                have hnb150 := NB735_705.out
                have hnc150 := NB705_735.out
                have hnb151 := NB735_720.out
                have hnc151 := NB720_735.out
                have hnb152 := NB735_727.out
                have hnc152 := NB727_735.out
                have hnb153 := NB735_765.out
                have hnc153 := NB765_735.out
                have hcz154_0 := zc0 BK735
                have hcz154_1 := zc1 BK735
                have hfz154_0 := blk_frozen BK735.out 0
                have hfz154_1 := blk_frozen BK735.out 1
                go_wp2_with (first | ((with_reducible refine gate_callee (f := 27) rfl ?_); refine gL (some 90) Try.func27 #[.agg #[.slice Ao35 t749.length co35, .slice Ao40 t750.length co40], .int .i64 1] ?_; (with_reducible refine (laws_heldMap.calls kj100 _ _ t749 _ _ t750 1 t767 _ ?side1 ?side2 ?side3 ?side4 A147.out).mono ?_); (case side1 => exact cP (Kd.R_reads' HO_736000.out).2.2); (case side2 => exact (Kd.R_reads' HO_736000.out).2.1); (case side3 => exact cP (Kd.R_reads' HO_736001.out).2.2); (case side4 => exact (Kd.R_reads' HO_736001.out).2.1); rintro e w155 ⟨rfl, hb⟩; refine ⟨_, rfl, ?_⟩; replace HO_721000 := rB HO_721000 hb; replace HO_721001 := rB HO_721001 hb; replace HO_728000 := rB HO_728000 hb; replace HO_728001 := rB HO_728001 hb; replace HO_736000 := rB HO_736000 hb; replace HO_736001 := rB HO_736001 hb; replace HO_766000 := rB HO_766000 hb; replace HO_766001 := rB HO_766001 hb; replace BK705 := kB BK705 hb; replace BK720 := kB BK720 hb; replace BK727 := kB BK727 hb; replace BK735 := kB BK735 hb; replace BK765 := kB BK765 hb; replace HB := bS HB hb; (try clear hb); (try clear hb2); (try clear hk); (try clear hi)))
                go_ret
                exact ⟨eR, bP HB⟩
               ·rw [if_neg c149] at H
                have c149b0 : (t767 == t748) = false := beq_eq_false_iff_ne.mpr c149
                have c149b1 : (t767 != t748) = true := bne_iff_ne.mpr c149
                exact absurd ((Option.some.inj H).trans hr_.out) (by decide)
          ·rw [if_neg c98] at H
           have c98b0 : (t751 == t748) = false := beq_eq_false_iff_ne.mpr c98
           have c98b1 : (t751 != t748) = true := bne_iff_ne.mpr c98
           exact absurd ((Option.some.inj H).trans hr_.out) (by decide)
     ·replace c62 := Bool.eq_false_iff.mpr c62
      subst c62
      have H1 : (some false) = some r := by rw [if_neg (show ¬ (false = true) by decide)] at H; exact H
      clear H
      have H := H1
      clear H1
      exact absurd ((Option.some.inj H).trans hr_.out) (by decide)

end Go.Proofs.Ytajmkjeiegdpcaa.F
