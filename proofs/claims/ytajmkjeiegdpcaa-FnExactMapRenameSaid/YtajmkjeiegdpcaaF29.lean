/- Contracts: what these Go functions return. -/
import Derived.Test.YtajmkjeiegdpcaaF0
import Derived.Test.YtajmkjeiegdpcaaF3
import Derived.Test.YtajmkjeiegdpcaaF6
import Derived.Test.YtajmkjeiegdpcaaF7
import Derived.Test.YtajmkjeiegdpcaaF14
import Derived.Test.YtajmkjeiegdpcaaF19
import Derived.Test.YtajmkjeiegdpcaaF23
import Derived.Test.YtajmkjeiegdpcaaF25
import Derived.Test.YtajmkjeiegdpcaaF28
namespace Go.Proofs.Ytajmkjeiegdpcaa.F
open Go.RowKit Go.Proofs.YtajmkjeiegdpcaaW.PrintWords Go.Proofs.YtajmkjeiegdpcaaW.PrintLast Go.Proofs.YtajmkjeiegdpcaaW.PrintMore
attribute [local go_sem] max2_int min2_int max_two min_two max_three min_three max_four min_four
set_option linter.unusedVariables false
set_option linter.unusedSimpArgs false

/-! ### laws_FnExactMapRename: function 6 -/
mutual
def laws_FnExactMapRename.j0 : Nat → List Int → Bool → List Int → Bool → Bool → List Int → List Int → List Int → List Int → List Int → List Int → List Int → List Int → Option (Bool)
 | 0, _, _, _, _, _, _, _, _, _, _, _, _, _ => none
 | k + 1, x1, x7, x9, x11, x51, x496000, x496001, x514000, x514001, x521000, x521001, x532000, x532001 => if x51 = true then (some false) else ((laws_toMap.f k x496000 x496001).bind fun bt533 => ((laws_eqMap.f k x521000 x521001 bt533.1 bt533.2).bind fun t539 => (if t539 = true then ((laws_toIntS.f k x1).bind fun t540 => ((laws_eqIntS.f k x9 t540).bind fun t543 => (if t543 = true then ((laws_markMap.f k x521000 x521001 1).bind fun bt544 => ((laws_markIntS.f k x9 bt544.1).bind fun bt547 => (if bt547.1 < 0 then (laws_FnExactMapRename.j1 k x1 x7 true x496000 x496001 x514000 x514001 x532000 x532001) else ((laws_eqMap.f k x532000 x532001 x514000 x514001).bind fun t549 => (if t549 = true then (laws_FnExactMapRename.j1 k x1 x7 (x11 != x7) x496000 x496001 x514000 x514001 x532000 x532001) else (laws_FnExactMapRename.j1 k x1 x7 true x496000 x496001 x514000 x514001 x532000 x532001)))))) else (some false)))) else (some false))))
def laws_FnExactMapRename.j1 : Nat → List Int → Bool → Bool → List Int → List Int → List Int → List Int → List Int → List Int → Option (Bool)
 | 0, _, _, _, _, _, _, _, _, _ => none
 | k + 1, x1, x7, x80, x496000, x496001, x514000, x514001, x532000, x532001 => if x80 = true then (some false) else ((laws_markMap.f k x532000 x532001 1).bind fun bt550 => ((laws_heldMap.f k bt550.2.1 bt550.2.2 1).bind fun t553 => (if t553 < 0 then (some false) else (if t553 = bt550.1 then ((laws_toMap.f k x496000 x496001).bind fun bt554 => ((laws_toIntS.f k x1).bind fun t560 => ((impl_MapRename.f k bt554.1 bt554.2 t560).bind fun bt563 => ((laws_eqMap.f k bt563.1 bt563.2.1 x514000 x514001).bind fun t571 => (if t571 = true then (laws_FnExactMapRename.j2 k bt550.1 (bt563.2.2 != x7) bt550.2.1 bt550.2.2) else (laws_FnExactMapRename.j2 k bt550.1 true bt550.2.1 bt550.2.2)))))) else (some false)))))
def laws_FnExactMapRename.j2 : Nat → Int → Bool → List Int → List Int → Option (Bool)
 | 0, _, _, _, _ => none
 | k + 1, x13, x108, x532000, x532001 => if x108 = true then (some false) else ((laws_heldMap.f k x532000 x532001 1).bind fun t572 => (if t572 < 0 then (some false) else (if t572 = x13 then (some true) else (some false))))
end
def laws_FnExactMapRename.f (k : Nat) (l0_0 : List Int) (l0_1 : List Int) (l1 : List Int) : Option (Bool) := if (l1.length : Int) > 1048576 then (some true) else ((laws_szMap.f l0_0 l0_1 1048576).bind fun t496 => (if t496 < 0 then (some true) else ((laws_toMap.f k l0_0 l0_1).bind fun bt497 => ((laws_toIntS.f k l1).bind fun t503 => ((spec_MapRename.f k bt497.1 bt497.2 t503).bind fun bt506 => ((laws_toMap.f k l0_0 l0_1).bind fun bt514 => ((laws_toIntS.f k l1).bind fun t521 => ((impl_MapRename.f k bt514.1 bt514.2 t521).bind fun bt524 => ((laws_eqMap.f k bt524.1 bt524.2.1 bt506.1 bt506.2.1).bind fun t532 => (if t532 = true then (laws_FnExactMapRename.j0 k l1 bt506.2.2 t521 bt524.2.2 (bt524.2.2 != bt506.2.2) l0_0 l0_1 bt506.1 bt506.2.1 bt514.1 bt514.2 bt524.1 bt524.2.1) else (laws_FnExactMapRename.j0 k l1 bt506.2.2 t521 bt524.2.2 true l0_0 l0_1 bt506.1 bt506.2.1 bt514.1 bt514.2 bt524.1 bt524.2.1)))))))))))
theorem laws_FnExactMapRename.mono_l : ∀ k, (∀ y0 y1 y2 y3 y4 y5 y6 y7 y8 y9 y10 y11 y12, LeO (laws_FnExactMapRename.j0 k y0 y1 y2 y3 y4 y5 y6 y7 y8 y9 y10 y11 y12) (laws_FnExactMapRename.j0 (k + 1) y0 y1 y2 y3 y4 y5 y6 y7 y8 y9 y10 y11 y12)) ∧ (∀ y0 y1 y2 y3 y4 y5 y6 y7 y8, LeO (laws_FnExactMapRename.j1 k y0 y1 y2 y3 y4 y5 y6 y7 y8) (laws_FnExactMapRename.j1 (k + 1) y0 y1 y2 y3 y4 y5 y6 y7 y8)) ∧ (∀ y0 y1 y2 y3, LeO (laws_FnExactMapRename.j2 k y0 y1 y2 y3) (laws_FnExactMapRename.j2 (k + 1) y0 y1 y2 y3))
 | 0 => ⟨fun _ _ _ _ _ _ _ _ _ _ _ _ _ r h => by simp [laws_FnExactMapRename.j0] at h, fun _ _ _ _ _ _ _ _ _ r h => by simp [laws_FnExactMapRename.j1] at h, fun _ _ _ _ r h => by simp [laws_FnExactMapRename.j2] at h⟩
 | k + 1 => by
  obtain ⟨ih0, ih1, ih2⟩ := laws_FnExactMapRename.mono_l k
  refine ⟨?_, ?_, ?_⟩
  ·intro y0 y1 y2 y3 y4 y5 y6 y7 y8 y9 y10 y11 y12
   unfold laws_FnExactMapRename.j0
   repeat' first
   | (with_reducible exact ih0 _ _ _ _ _ _ _ _ _ _ _ _ _)
   | (with_reducible exact ih1 _ _ _ _ _ _ _ _ _)
   | (with_reducible exact ih2 _ _ _ _)
   | (with_reducible exact impl_MapRename.mono _ _ _ _)
   | (with_reducible exact laws_eqIntS.mono _ _ _)
   | (with_reducible exact laws_eqMap.mono _ _ _ _ _)
   | (with_reducible exact laws_heldMap.mono _ _ _ _)
   | (with_reducible exact laws_markIntS.mono _ _ _)
   | (with_reducible exact laws_markMap.mono _ _ _ _)
   | (with_reducible exact laws_toIntS.mono _ _)
   | (with_reducible exact laws_toMap.mono _ _ _)
   | (with_reducible exact spec_MapRename.mono _ _ _ _)
   | (with_reducible exact LeO.refl _)
   | (with_reducible exact LeO.none _)
   | (with_reducible refine LeO.ite ?_ ?_)
   | (with_reducible refine LeO.bind ?_ (fun _ => ?_))
   | exact ih0 _ _ _ _ _ _ _ _ _ _ _ _ _
   | exact ih1 _ _ _ _ _ _ _ _ _
   | exact ih2 _ _ _ _
   | exact impl_MapRename.mono _ _ _ _
   | exact laws_eqIntS.mono _ _ _
   | exact laws_eqMap.mono _ _ _ _ _
   | exact laws_heldMap.mono _ _ _ _
   | exact laws_markIntS.mono _ _ _
   | exact laws_markMap.mono _ _ _ _
   | exact laws_toIntS.mono _ _
   | exact laws_toMap.mono _ _ _
   | exact spec_MapRename.mono _ _ _ _
   | exact LeO.none _
   | refine LeO.ite ?_ ?_
   | refine LeO.bind ?_ (fun _ => ?_)
  ·intro y0 y1 y2 y3 y4 y5 y6 y7 y8
   unfold laws_FnExactMapRename.j1
   repeat' first
   | (with_reducible exact ih0 _ _ _ _ _ _ _ _ _ _ _ _ _)
   | (with_reducible exact ih1 _ _ _ _ _ _ _ _ _)
   | (with_reducible exact ih2 _ _ _ _)
   | (with_reducible exact impl_MapRename.mono _ _ _ _)
   | (with_reducible exact laws_eqIntS.mono _ _ _)
   | (with_reducible exact laws_eqMap.mono _ _ _ _ _)
   | (with_reducible exact laws_heldMap.mono _ _ _ _)
   | (with_reducible exact laws_markIntS.mono _ _ _)
   | (with_reducible exact laws_markMap.mono _ _ _ _)
   | (with_reducible exact laws_toIntS.mono _ _)
   | (with_reducible exact laws_toMap.mono _ _ _)
   | (with_reducible exact spec_MapRename.mono _ _ _ _)
   | (with_reducible exact LeO.refl _)
   | (with_reducible exact LeO.none _)
   | (with_reducible refine LeO.ite ?_ ?_)
   | (with_reducible refine LeO.bind ?_ (fun _ => ?_))
   | exact ih0 _ _ _ _ _ _ _ _ _ _ _ _ _
   | exact ih1 _ _ _ _ _ _ _ _ _
   | exact ih2 _ _ _ _
   | exact impl_MapRename.mono _ _ _ _
   | exact laws_eqIntS.mono _ _ _
   | exact laws_eqMap.mono _ _ _ _ _
   | exact laws_heldMap.mono _ _ _ _
   | exact laws_markIntS.mono _ _ _
   | exact laws_markMap.mono _ _ _ _
   | exact laws_toIntS.mono _ _
   | exact laws_toMap.mono _ _ _
   | exact spec_MapRename.mono _ _ _ _
   | exact LeO.none _
   | refine LeO.ite ?_ ?_
   | refine LeO.bind ?_ (fun _ => ?_)
  ·intro y0 y1 y2 y3
   unfold laws_FnExactMapRename.j2
   repeat' first
   | (with_reducible exact ih0 _ _ _ _ _ _ _ _ _ _ _ _ _)
   | (with_reducible exact ih1 _ _ _ _ _ _ _ _ _)
   | (with_reducible exact ih2 _ _ _ _)
   | (with_reducible exact impl_MapRename.mono _ _ _ _)
   | (with_reducible exact laws_eqIntS.mono _ _ _)
   | (with_reducible exact laws_eqMap.mono _ _ _ _ _)
   | (with_reducible exact laws_heldMap.mono _ _ _ _)
   | (with_reducible exact laws_markIntS.mono _ _ _)
   | (with_reducible exact laws_markMap.mono _ _ _ _)
   | (with_reducible exact laws_toIntS.mono _ _)
   | (with_reducible exact laws_toMap.mono _ _ _)
   | (with_reducible exact spec_MapRename.mono _ _ _ _)
   | (with_reducible exact LeO.refl _)
   | (with_reducible exact LeO.none _)
   | (with_reducible refine LeO.ite ?_ ?_)
   | (with_reducible refine LeO.bind ?_ (fun _ => ?_))
   | exact ih0 _ _ _ _ _ _ _ _ _ _ _ _ _
   | exact ih1 _ _ _ _ _ _ _ _ _
   | exact ih2 _ _ _ _
   | exact impl_MapRename.mono _ _ _ _
   | exact laws_eqIntS.mono _ _ _
   | exact laws_eqMap.mono _ _ _ _ _
   | exact laws_heldMap.mono _ _ _ _
   | exact laws_markIntS.mono _ _ _
   | exact laws_markMap.mono _ _ _ _
   | exact laws_toIntS.mono _ _
   | exact laws_toMap.mono _ _ _
   | exact spec_MapRename.mono _ _ _ _
   | exact LeO.none _
   | refine LeO.ite ?_ ?_
   | refine LeO.bind ?_ (fun _ => ?_)
theorem laws_FnExactMapRename.mono : ∀ a0 a1 a2 k, LeO (laws_FnExactMapRename.f k a0 a1 a2) (laws_FnExactMapRename.f (k + 1) a0 a1 a2) := by
 intro a0 a1 a2 k
 obtain ⟨ih0, ih1, ih2⟩ := laws_FnExactMapRename.mono_l k
 unfold laws_FnExactMapRename.f
 repeat' first
  | (with_reducible exact ih0 _ _ _ _ _ _ _ _ _ _ _ _ _)
  | (with_reducible exact ih1 _ _ _ _ _ _ _ _ _)
  | (with_reducible exact ih2 _ _ _ _)
  | (with_reducible exact impl_MapRename.mono _ _ _ _)
  | (with_reducible exact laws_eqIntS.mono _ _ _)
  | (with_reducible exact laws_eqMap.mono _ _ _ _ _)
  | (with_reducible exact laws_heldMap.mono _ _ _ _)
  | (with_reducible exact laws_markIntS.mono _ _ _)
  | (with_reducible exact laws_markMap.mono _ _ _ _)
  | (with_reducible exact laws_toIntS.mono _ _)
  | (with_reducible exact laws_toMap.mono _ _ _)
  | (with_reducible exact spec_MapRename.mono _ _ _ _)
  | (with_reducible exact LeO.refl _)
  | (with_reducible exact LeO.none _)
  | (with_reducible refine LeO.ite ?_ ?_)
  | (with_reducible refine LeO.bind ?_ (fun _ => ?_))
  | exact ih0 _ _ _ _ _ _ _ _ _ _ _ _ _
  | exact ih1 _ _ _ _ _ _ _ _ _
  | exact ih2 _ _ _ _
  | exact impl_MapRename.mono _ _ _ _
  | exact laws_eqIntS.mono _ _ _
  | exact laws_eqMap.mono _ _ _ _ _
  | exact laws_heldMap.mono _ _ _ _
  | exact laws_markIntS.mono _ _ _
  | exact laws_markMap.mono _ _ _ _
  | exact laws_toIntS.mono _ _
  | exact laws_toMap.mono _ _ _
  | exact spec_MapRename.mono _ _ _ _
  | exact LeO.none _
  | refine LeO.ite ?_ ?_
  | refine LeO.bind ?_ (fun _ => ?_)
set_option maxHeartbeats 8000000 in
set_option maxRecDepth 100000 in
theorem laws_FnExactMapRename.calls (k : Nat) (A0_0 : Option Addr) (c0_0 : Nat) (l0_0 : List Int) (A0_1 : Option Addr) (c0_1 : Nat) (l0_1 : List Int) (A1 : Option Addr) (c1 : Nat) (l1 : List Int) (r : Bool) (w : World) (hr0_0 : Kd.C (Kd.int .i64) w A0_0 l0_0.length l0_0) (hc0_0 : l0_0.length ≤ c0_0) (hr0_1 : Kd.C (Kd.int .i64) w A0_1 l0_1.length l0_1) (hc0_1 : l0_1.length ≤ c0_1) (hr1 : Kd.C (Kd.int .i64) w A1 l1.length l1) (hc1 : l1.length ≤ c1) (hr_ : Aside0 (r = true)) (h : laws_FnExactMapRename.f k l0_0 l0_1 l1 = some r) :
 Calls Try.prog 6 #[.agg #[.slice A0_0 l0_0.length c0_0, .slice A0_1 l0_1.length c0_1], .slice A1 l1.length c1] w fun e w' => e = .returned (.bool r) ∧ Below w.heap.size w w' := by
 have hu37 := Try.underlying37
 have hu40 := Try.underlying40
 have HR0_0 := Aside0.mk hr0_0
 have HC0_0 := Aside0.mk hc0_0
 clear hr0_0 hc0_0
 have HR0_1 := Aside0.mk hr0_1
 have HC0_1 := Aside0.mk hc0_1
 clear hr0_1 hc0_1
 have HR1 := Aside0.mk hr1
 have HC1 := Aside0.mk hc1
 clear hr1 hc1
 have HB := Aside0.mk (Below.refl w.heap.size w)
 have H : (if (l1.length : Int) > 1048576 then (some true) else ((laws_szMap.f l0_0 l0_1 1048576).bind fun t496 => (if t496 < 0 then (some true) else ((laws_toMap.f k l0_0 l0_1).bind fun bt497 => ((laws_toIntS.f k l1).bind fun t503 => ((spec_MapRename.f k bt497.1 bt497.2 t503).bind fun bt506 => ((laws_toMap.f k l0_0 l0_1).bind fun bt514 => ((laws_toIntS.f k l1).bind fun t521 => ((impl_MapRename.f k bt514.1 bt514.2 t521).bind fun bt524 => ((laws_eqMap.f k bt524.1 bt524.2.1 bt506.1 bt506.2.1).bind fun t532 => (if t532 = true then (laws_FnExactMapRename.j0 k l1 bt506.2.2 t521 bt524.2.2 (bt524.2.2 != bt506.2.2) l0_0 l0_1 bt506.1 bt506.2.1 bt514.1 bt514.2 bt524.1 bt524.2.1) else (laws_FnExactMapRename.j0 k l1 bt506.2.2 t521 bt524.2.2 true l0_0 l0_1 bt506.1 bt506.2.1 bt514.1 bt514.2 bt524.1 bt524.2.1)))))))))))) = some r := h
 clear h
 by_cases c3 : (l1.length : Int) > 1048576
 ·rw [if_pos c3] at H
  have c3b0 : decide (1048576 < (l1.length : Int)) = true := decide_eq_true c3
  have c3b1 : decide (1048576 < l1.length) = true := decide_eq_true (by omega)
  clear c3
  obtain rfl := Option.some.inj H
  go_enter Try.func6, Try.ntmps6
  go_wp2_with (first | ((with_reducible refine gate_dst (N := 2) rfl ?_); refine bE 2 #[.slice A0_0 l0_0.length c0_0, .slice A0_1 l0_1.length c0_1] 37 ?_; intro gb495 hg w4 hbox hb; have BK495 := Aside0.mk (hbox); have GW495 := gS HB hg; have GE495 := gS HB hg; replace HB := bS HB hb; clear hb hbox hg))
  go_ret
  exact ⟨eR, bP HB⟩
 ·rw [if_neg c3] at H
  have c3b0 : decide (1048576 < (l1.length : Int)) = false := decide_eq_false c3
  have c3b1 : decide (1048576 < l1.length) = false := decide_eq_false (by omega)
  clear c3
  replace H := Option.bind_eq_some_iff.mp H
  obtain ⟨t496, A50, H⟩ := H
  try dsimp only at H
  have A5 := Aside0.mk A50
  clear A50
  by_cases c6 : t496 < 0
  ·rw [if_pos c6] at H
   have c6b0 : decide (t496 < 0) = true := decide_eq_true c6
   clear c6
   obtain rfl := Option.some.inj H
   go_enter Try.func6, Try.ntmps6
   go_wp2_with (first | ((with_reducible refine gate_dst (N := 2) rfl ?_); refine bE 2 #[.slice A0_0 l0_0.length c0_0, .slice A0_1 l0_1.length c0_1] 37 ?_; intro gb495 hg w7 hbox hb; have BK495 := Aside0.mk (hbox); have GW495 := gS HB hg; have GE495 := gS HB hg; replace HB := bS HB hb; clear hb hbox hg; have hcz8_0 := zc0 BK495; have hcz8_1 := zc1 BK495; have hfz8_0 := blk_frozen BK495.out 0; have hfz8_1 := blk_frozen BK495.out 1) | ((with_reducible refine gate_callee (f := 19) rfl ?_); refine gL (some 22) Try.func19 #[.agg #[.slice A0_0 l0_0.length c0_0, .slice A0_1 l0_1.length c0_1], .int .i64 1048576] ?_; (with_reducible refine (laws_szMap.calls _ _ l0_0 _ _ l0_1 1048576 t496 _ ?side1 ?side2 ?side3 ?side4 A5.out).mono ?_); (case side1 => exact cB HR0_0 HB); (case side2 => exact HC0_0.out); (case side3 => exact cB HR0_1 HB); (case side4 => exact HC0_1.out); rintro e w9 ⟨rfl, hb⟩; refine ⟨_, rfl, ?_⟩; replace BK495 := kB BK495 hb; replace HB := bS HB hb; (try clear hb); (try clear hb2); (try clear hk); (try clear hi)))
   go_ret
   exact ⟨eR, bP HB⟩
  ·rw [if_neg c6] at H
   have c6b0 : decide (t496 < 0) = false := decide_eq_false c6
   clear c6
   replace H := Option.bind_eq_some_iff.mp H
   obtain ⟨⟨t497, t500⟩, A100, H⟩ := H
   try dsimp only at H
   have A10 := Aside0.mk A100
   clear A100
   replace H := Option.bind_eq_some_iff.mp H
   obtain ⟨t503, A110, H⟩ := H
   try dsimp only at H
   have A11 := Aside0.mk A110
   clear A110
   replace H := Option.bind_eq_some_iff.mp H
   obtain ⟨⟨t506, t509, t512⟩, A120, H⟩ := H
   try dsimp only at H
   have A12 := Aside0.mk A120
   clear A120
   replace H := Option.bind_eq_some_iff.mp H
   obtain ⟨⟨t514, t517⟩, A130, H⟩ := H
   try dsimp only at H
   have A13 := Aside0.mk A130
   clear A130
   replace H := Option.bind_eq_some_iff.mp H
   obtain ⟨t521, A140, H⟩ := H
   try dsimp only at H
   have A14 := Aside0.mk A140
   clear A140
   replace H := Option.bind_eq_some_iff.mp H
   obtain ⟨⟨t524, t527, t530⟩, A150, H⟩ := H
   try dsimp only at H
   have A15 := Aside0.mk A150
   clear A150
   have HC16 := Aside0.mk H
   clear H
   go_enter Try.func6, Try.ntmps6
   go_upto_region 11 with (first | ((with_reducible refine gate_dst (N := 2) rfl ?_); refine bE 2 #[.slice A0_0 l0_0.length c0_0, .slice A0_1 l0_1.length c0_1] 37 ?_; intro gb495 hg w17 hbox hb; have BK495 := Aside0.mk (hbox); have GW495 := gS HB hg; have GE495 := gS HB hg; replace HB := bS HB hb; clear hb hbox hg; have hcz18_0 := zc0 BK495; have hcz18_1 := zc1 BK495; have hfz18_0 := blk_frozen BK495.out 0; have hfz18_1 := blk_frozen BK495.out 1) | ((with_reducible refine gate_callee (f := 19) rfl ?_); refine gL (some 22) Try.func19 #[.agg #[.slice A0_0 l0_0.length c0_0, .slice A0_1 l0_1.length c0_1], .int .i64 1048576] ?_; (with_reducible refine (laws_szMap.calls _ _ l0_0 _ _ l0_1 1048576 t496 _ ?side1 ?side2 ?side3 ?side4 A5.out).mono ?_); (case side1 => exact cB HR0_0 HB); (case side2 => exact HC0_0.out); (case side3 => exact cB HR0_1 HB); (case side4 => exact HC0_1.out); rintro e w19 ⟨rfl, hb⟩; refine ⟨_, rfl, ?_⟩; replace BK495 := kB BK495 hb; replace HB := bS HB hb; (try clear hb); (try clear hb2); (try clear hk); (try clear hi); have hcz20_0 := zc0 BK495; have hcz20_1 := zc1 BK495; have hfz20_0 := blk_frozen BK495.out 0; have hfz20_1 := blk_frozen BK495.out 1) | ((with_reducible refine gate_callee (f := 21) rfl ?_); refine gL (some 27) Try.func21 #[.agg #[.slice A0_0 l0_0.length c0_0, .slice A0_1 l0_1.length c0_1]] ?_; (with_reducible refine (laws_toMap.calls k _ _ l0_0 _ _ l0_1 t497 t500 _ ?side1 ?side2 ?side3 ?side4 A10.out).mono ?_); (case side1 => exact cB HR0_0 HB); (case side2 => exact HC0_0.out); (case side3 => exact cB HR0_1 HB); (case side4 => exact HC0_1.out); rintro e w21 ⟨v498, v501, rfl, ho0, ho1, hb⟩; refine ⟨_, rfl, ?_⟩; have HO499 := rL ho0 HB; have HO502 := rL ho1 HB; replace BK495 := kB BK495 hb; replace HB := bS HB hb; (try clear hb); (try clear hb2); (try clear hk); (try clear hi); (try clear ho0); (try clear ho1)) | ((with_reducible refine gate_callee (f := 9) rfl ?_); refine gL (some 29) Try.func9 #[.slice A1 l1.length c1] ?_; (with_reducible refine (laws_toIntS.calls k _ _ l1 t503 _ ?side1 ?side2 A11.out).mono ?_); (case side1 => exact cB HR1 HB); (case side2 => exact HC1.out); rintro e w22 ⟨v504, rfl, ho0, hb⟩; refine ⟨_, rfl, ?_⟩; have HO505 := Aside0.mk (Kd.R_lower (Kd.R_new' (Kd.R_new' ho0 (Kd.R_lt (rP HO499))) (Kd.R_lt (rP HO502))) (below_size (bP HB))); replace HO499 := Aside0.mk (Kd.R_elder' (rP HO499) (Kd.R_base ho0) hb); replace HO502 := Aside0.mk (Kd.R_elder' (rP HO502) (Kd.R_base ho0) hb); replace BK495 := kB BK495 hb; replace HB := bS HB hb; (try clear hb); (try clear hb2); (try clear hk); (try clear hi); (try clear ho0); obtain ⟨Ao23, co23, eo23⟩ := Kd.R_slice HO499.out; subst eo23; obtain ⟨Ao24, co24, eo24⟩ := Kd.R_slice HO502.out; subst eo24; obtain ⟨Ao25, co25, eo25⟩ := Kd.R_slice HO505.out; subst eo25) | ((with_reducible refine gate_callee (f := 24) rfl ?_); refine gL (some 30) Try.func24 #[.agg #[.slice Ao23 t497.length co23, .slice Ao24 t500.length co24], .slice Ao25 t503.length co25] ?_; (with_reducible refine (spec_MapRename.calls k _ _ t497 _ _ t500 _ _ t503 t506 t509 t512 _ ?side1 ?side2 ?side3 ?side4 ?side5 ?side6 A12.out).mono ?_); (case side1 => exact cP (Kd.R_reads' HO499.out).2.2); (case side2 => exact (Kd.R_reads' HO499.out).2.1); (case side3 => exact cP (Kd.R_reads' HO502.out).2.2); (case side4 => exact (Kd.R_reads' HO502.out).2.1); (case side5 => exact cP (Kd.R_reads' HO505.out).2.2); (case side6 => exact (Kd.R_reads' HO505.out).2.1); rintro e w26 ⟨v507, v510, rfl, ho0, ho1, hb⟩; refine ⟨_, rfl, ?_⟩; have HO508 := Aside0.mk (Kd.R_lower (Kd.R_new' (Kd.R_new' (Kd.R_new' ho0 (Kd.R_lt (rP HO499))) (Kd.R_lt (rP HO502))) (Kd.R_lt (rP HO505))) (below_size (bP HB))); have HO511 := Aside0.mk (Kd.R_lower (Kd.R_new' (Kd.R_new' (Kd.R_new' ho1 (Kd.R_lt (rP HO499))) (Kd.R_lt (rP HO502))) (Kd.R_lt (rP HO505))) (below_size (bP HB))); replace HO499 := Aside0.mk (Kd.R_mono (Kd.R_told (Kd.R_told (Kd.R_old (rP HO499) hb) (Kd.R_base ho0)) (Kd.R_base ho1)) (fun _ h_ => h_.1)); replace HO502 := Aside0.mk (Kd.R_mono (Kd.R_told (Kd.R_told (Kd.R_old (rP HO502) hb) (Kd.R_base ho0)) (Kd.R_base ho1)) (fun _ h_ => h_.1)); replace HO505 := Aside0.mk (Kd.R_mono (Kd.R_told (Kd.R_told (Kd.R_old (rP HO505) hb) (Kd.R_base ho0)) (Kd.R_base ho1)) (fun _ h_ => h_.1)); replace BK495 := kB BK495 hb; replace HB := bS HB hb; (try clear hb); (try clear hb2); (try clear hk); (try clear hi); (try clear ho0); (try clear ho1)) | ((with_reducible refine gate_dst (N := 6) rfl ?_); refine bE 6 #[.slice none 0 0, .slice none 0 0] 40 ?_; intro gb513 hg w27 hbox hb; replace HO499 := rB HO499 hb; replace HO502 := rB HO502 hb; replace HO505 := rB HO505 hb; replace HO508 := rB HO508 hb; replace HO511 := rB HO511 hb; have BK513 := Aside0.mk (hbox); have GW513 := gS HB hg; have GE513 := gS HB hg; replace HB := bS HB hb; have NB495_513 := nL BK495 hg; have NB513_495 := nG BK495 hg; replace BK495 := kB BK495 hb; clear hb hbox hg; obtain ⟨Ao28, co28, eo28⟩ := Kd.R_slice HO508.out; subst eo28; have hnb29 := NB513_495.out; have hnc29 := NB495_513.out; have hcz30_0 := zc0 BK513; have hcz30_1 := zc1 BK513; have hfz30_0 := blk_frozen BK513.out 0; have hfz30_1 := blk_frozen BK513.out 1; obtain ⟨Ao31, co31, eo31⟩ := Kd.R_slice HO511.out; subst eo31; have hcz32_0 := zc0 BK495; have hcz32_1 := zc1 BK495; have hfz32_0 := blk_frozen BK495.out 0; have hfz32_1 := blk_frozen BK495.out 1) | ((with_reducible refine gate_callee (f := 21) rfl ?_); refine gL (some 34) Try.func21 #[.agg #[.slice A0_0 l0_0.length c0_0, .slice A0_1 l0_1.length c0_1]] ?_; (with_reducible refine (laws_toMap.calls k _ _ l0_0 _ _ l0_1 t514 t517 _ ?side1 ?side2 ?side3 ?side4 A13.out).mono ?_); (case side1 => exact Kd.C_below HR0_0.out (bP HB)); (case side2 => exact HC0_0.out); (case side3 => exact Kd.C_below HR0_1.out (bP HB)); (case side4 => exact HC0_1.out); rintro e w33 ⟨v515, v518, rfl, ho0, ho1, hb⟩; refine ⟨_, rfl, ?_⟩; have HO516 := Aside0.mk (Kd.R_lower (Kd.R_new' (Kd.R_new' (Kd.R_new' (Kd.R_new' (Kd.R_new' ho0 (Kd.R_lt (rT (Kd.R_mono (Kd.R_far (p := ⟨gb513, 1, none⟩) (Kd.R_far (p := ⟨gb513, 0, none⟩) (Kd.R_types HO499.out BK513.out (by decide)) (fun _ hk => hk.2) (.slice Ao28 t506.length co28)) (fun _ hk => hk.2) (.slice Ao31 t509.length co31)) (fun _ h_ => h_.1))))) (Kd.R_lt (rT (Kd.R_mono (Kd.R_far (p := ⟨gb513, 1, none⟩) (Kd.R_far (p := ⟨gb513, 0, none⟩) (Kd.R_types HO502.out BK513.out (by decide)) (fun _ hk => hk.2) (.slice Ao28 t506.length co28)) (fun _ hk => hk.2) (.slice Ao31 t509.length co31)) (fun _ h_ => h_.1))))) (Kd.R_lt (rT (Kd.R_mono (Kd.R_far (p := ⟨gb513, 1, none⟩) (Kd.R_far (p := ⟨gb513, 0, none⟩) (Kd.R_types HO505.out BK513.out (by decide)) (fun _ hk => hk.2) (.slice Ao28 t506.length co28)) (fun _ hk => hk.2) (.slice Ao31 t509.length co31)) (fun _ h_ => h_.1))))) (Kd.R_lt (rT (Kd.R_mono (Kd.R_far (p := ⟨gb513, 1, none⟩) (Kd.R_far (p := ⟨gb513, 0, none⟩) (Kd.R_types HO508.out BK513.out (by decide)) (fun _ hk => hk.2) (.slice Ao28 t506.length co28)) (fun _ hk => hk.2) (.slice Ao31 t509.length co31)) (fun _ h_ => h_.1))))) (Kd.R_lt (rT (Kd.R_mono (Kd.R_far (p := ⟨gb513, 1, none⟩) (Kd.R_far (p := ⟨gb513, 0, none⟩) (Kd.R_types HO511.out BK513.out (by decide)) (fun _ hk => hk.2) (.slice Ao28 t506.length co28)) (fun _ hk => hk.2) (.slice Ao31 t509.length co31)) (fun _ h_ => h_.1))))) (below_size (bP HB))); have HO519 := Aside0.mk (Kd.R_lower (Kd.R_new' (Kd.R_new' (Kd.R_new' (Kd.R_new' (Kd.R_new' ho1 (Kd.R_lt (rT (Kd.R_mono (Kd.R_far (p := ⟨gb513, 1, none⟩) (Kd.R_far (p := ⟨gb513, 0, none⟩) (Kd.R_types HO499.out BK513.out (by decide)) (fun _ hk => hk.2) (.slice Ao28 t506.length co28)) (fun _ hk => hk.2) (.slice Ao31 t509.length co31)) (fun _ h_ => h_.1))))) (Kd.R_lt (rT (Kd.R_mono (Kd.R_far (p := ⟨gb513, 1, none⟩) (Kd.R_far (p := ⟨gb513, 0, none⟩) (Kd.R_types HO502.out BK513.out (by decide)) (fun _ hk => hk.2) (.slice Ao28 t506.length co28)) (fun _ hk => hk.2) (.slice Ao31 t509.length co31)) (fun _ h_ => h_.1))))) (Kd.R_lt (rT (Kd.R_mono (Kd.R_far (p := ⟨gb513, 1, none⟩) (Kd.R_far (p := ⟨gb513, 0, none⟩) (Kd.R_types HO505.out BK513.out (by decide)) (fun _ hk => hk.2) (.slice Ao28 t506.length co28)) (fun _ hk => hk.2) (.slice Ao31 t509.length co31)) (fun _ h_ => h_.1))))) (Kd.R_lt (rT (Kd.R_mono (Kd.R_far (p := ⟨gb513, 1, none⟩) (Kd.R_far (p := ⟨gb513, 0, none⟩) (Kd.R_types HO508.out BK513.out (by decide)) (fun _ hk => hk.2) (.slice Ao28 t506.length co28)) (fun _ hk => hk.2) (.slice Ao31 t509.length co31)) (fun _ h_ => h_.1))))) (Kd.R_lt (rT (Kd.R_mono (Kd.R_far (p := ⟨gb513, 1, none⟩) (Kd.R_far (p := ⟨gb513, 0, none⟩) (Kd.R_types HO511.out BK513.out (by decide)) (fun _ hk => hk.2) (.slice Ao28 t506.length co28)) (fun _ hk => hk.2) (.slice Ao31 t509.length co31)) (fun _ h_ => h_.1))))) (below_size (bP HB))); replace HO499 := Aside0.mk (Kd.R_mono (Kd.R_told (Kd.R_told (Kd.R_old (rT (Kd.R_mono (Kd.R_far (p := ⟨gb513, 1, none⟩) (Kd.R_far (p := ⟨gb513, 0, none⟩) (Kd.R_types HO499.out BK513.out (by decide)) (fun _ hk => hk.2) (.slice Ao28 t506.length co28)) (fun _ hk => hk.2) (.slice Ao31 t509.length co31)) (fun _ h_ => h_.1))) hb) (Kd.R_base ho0)) (Kd.R_base ho1)) (fun _ h_ => h_.1)); replace HO502 := Aside0.mk (Kd.R_mono (Kd.R_told (Kd.R_told (Kd.R_old (rT (Kd.R_mono (Kd.R_far (p := ⟨gb513, 1, none⟩) (Kd.R_far (p := ⟨gb513, 0, none⟩) (Kd.R_types HO502.out BK513.out (by decide)) (fun _ hk => hk.2) (.slice Ao28 t506.length co28)) (fun _ hk => hk.2) (.slice Ao31 t509.length co31)) (fun _ h_ => h_.1))) hb) (Kd.R_base ho0)) (Kd.R_base ho1)) (fun _ h_ => h_.1)); replace HO505 := Aside0.mk (Kd.R_mono (Kd.R_told (Kd.R_told (Kd.R_old (rT (Kd.R_mono (Kd.R_far (p := ⟨gb513, 1, none⟩) (Kd.R_far (p := ⟨gb513, 0, none⟩) (Kd.R_types HO505.out BK513.out (by decide)) (fun _ hk => hk.2) (.slice Ao28 t506.length co28)) (fun _ hk => hk.2) (.slice Ao31 t509.length co31)) (fun _ h_ => h_.1))) hb) (Kd.R_base ho0)) (Kd.R_base ho1)) (fun _ h_ => h_.1)); replace HO508 := Aside0.mk (Kd.R_mono (Kd.R_told (Kd.R_told (Kd.R_old (rT (Kd.R_mono (Kd.R_far (p := ⟨gb513, 1, none⟩) (Kd.R_far (p := ⟨gb513, 0, none⟩) (Kd.R_types HO508.out BK513.out (by decide)) (fun _ hk => hk.2) (.slice Ao28 t506.length co28)) (fun _ hk => hk.2) (.slice Ao31 t509.length co31)) (fun _ h_ => h_.1))) hb) (Kd.R_base ho0)) (Kd.R_base ho1)) (fun _ h_ => h_.1)); replace HO511 := Aside0.mk (Kd.R_mono (Kd.R_told (Kd.R_told (Kd.R_old (rT (Kd.R_mono (Kd.R_far (p := ⟨gb513, 1, none⟩) (Kd.R_far (p := ⟨gb513, 0, none⟩) (Kd.R_types HO511.out BK513.out (by decide)) (fun _ hk => hk.2) (.slice Ao28 t506.length co28)) (fun _ hk => hk.2) (.slice Ao31 t509.length co31)) (fun _ h_ => h_.1))) hb) (Kd.R_base ho0)) (Kd.R_base ho1)) (fun _ h_ => h_.1)); replace BK495 := kG BK495 hb; replace BK513 := Aside0.mk (blk_below (g := gb513) (o := .cells #[.slice Ao28 t506.length co28, .slice Ao31 t509.length co31] 40 (0, 0)) (by (with_reducible repeat (first | refine blk_drewN ?_ _ | refine blk_drew ?_ | refine blk_alloc ?_ _)); refine blk_put (cs := #[.slice Ao28 t506.length co28, .slice none 0 0]) ?_ 1 _ rfl; (with_reducible repeat (first | refine blk_drewN ?_ _ | refine blk_drew ?_ | refine blk_alloc ?_ _)); refine blk_put (cs := #[.slice none 0 0, .slice none 0 0]) ?_ 0 _ rfl; (with_reducible repeat (first | refine blk_drewN ?_ _ | refine blk_drew ?_ | refine blk_alloc ?_ _)); exact BK513.out) hb); replace HB := bS HB hb; (try clear hb); (try clear hb2); (try clear hk); (try clear hi); (try clear ho0); (try clear ho1)) | ((with_reducible refine gate_dst (N := 8) rfl ?_); refine bE 8 #[.slice none 0 0, .slice none 0 0] 40 ?_; intro gb520 hg w34 hbox hb; replace HO499 := rB HO499 hb; replace HO502 := rB HO502 hb; replace HO505 := rB HO505 hb; replace HO508 := rB HO508 hb; replace HO511 := rB HO511 hb; replace HO516 := rB HO516 hb; replace HO519 := rB HO519 hb; have BK520 := Aside0.mk (hbox); have GW520 := gS HB hg; have GE520 := gS HB hg; replace HB := bS HB hb; have NB495_520 := nL BK495 hg; have NB520_495 := nG BK495 hg; replace BK495 := kB BK495 hb; have NB513_520 := nL BK513 hg; have NB520_513 := nG BK513 hg; replace BK513 := kB BK513 hb; clear hb hbox hg; obtain ⟨Ao35, co35, eo35⟩ := Kd.R_slice HO516.out; subst eo35; have hnb36 := NB520_495.out; have hnc36 := NB495_520.out; have hnb37 := NB520_513.out; have hnc37 := NB513_520.out; have hcz38_0 := zc0 BK520; have hcz38_1 := zc1 BK520; have hfz38_0 := blk_frozen BK520.out 0; have hfz38_1 := blk_frozen BK520.out 1; obtain ⟨Ao39, co39, eo39⟩ := Kd.R_slice HO519.out; subst eo39) | ((with_reducible refine gate_callee (f := 9) rfl ?_); refine gL (some 36) Try.func9 #[.slice A1 l1.length c1] ?_; (with_reducible refine (laws_toIntS.calls k _ _ l1 t521 _ ?side1 ?side2 A14.out).mono ?_); (case side1 => exact Kd.C_below HR1.out (bP HB)); (case side2 => exact HC1.out); rintro e w40 ⟨v522, rfl, ho0, hb⟩; refine ⟨_, rfl, ?_⟩; have HO523 := Aside0.mk (Kd.R_lower (Kd.R_new' (Kd.R_new' (Kd.R_new' (Kd.R_new' (Kd.R_new' (Kd.R_new' (Kd.R_new' ho0 (Kd.R_lt (rT (Kd.R_mono (Kd.R_far (p := ⟨gb520, 1, none⟩) (Kd.R_far (p := ⟨gb520, 0, none⟩) (Kd.R_types HO499.out BK520.out (by decide)) (fun _ hk => hk.2) (.slice Ao35 t514.length co35)) (fun _ hk => hk.2) (.slice Ao39 t517.length co39)) (fun _ h_ => h_.1))))) (Kd.R_lt (rT (Kd.R_mono (Kd.R_far (p := ⟨gb520, 1, none⟩) (Kd.R_far (p := ⟨gb520, 0, none⟩) (Kd.R_types HO502.out BK520.out (by decide)) (fun _ hk => hk.2) (.slice Ao35 t514.length co35)) (fun _ hk => hk.2) (.slice Ao39 t517.length co39)) (fun _ h_ => h_.1))))) (Kd.R_lt (rT (Kd.R_mono (Kd.R_far (p := ⟨gb520, 1, none⟩) (Kd.R_far (p := ⟨gb520, 0, none⟩) (Kd.R_types HO505.out BK520.out (by decide)) (fun _ hk => hk.2) (.slice Ao35 t514.length co35)) (fun _ hk => hk.2) (.slice Ao39 t517.length co39)) (fun _ h_ => h_.1))))) (Kd.R_lt (rT (Kd.R_mono (Kd.R_far (p := ⟨gb520, 1, none⟩) (Kd.R_far (p := ⟨gb520, 0, none⟩) (Kd.R_types HO508.out BK520.out (by decide)) (fun _ hk => hk.2) (.slice Ao35 t514.length co35)) (fun _ hk => hk.2) (.slice Ao39 t517.length co39)) (fun _ h_ => h_.1))))) (Kd.R_lt (rT (Kd.R_mono (Kd.R_far (p := ⟨gb520, 1, none⟩) (Kd.R_far (p := ⟨gb520, 0, none⟩) (Kd.R_types HO511.out BK520.out (by decide)) (fun _ hk => hk.2) (.slice Ao35 t514.length co35)) (fun _ hk => hk.2) (.slice Ao39 t517.length co39)) (fun _ h_ => h_.1))))) (Kd.R_lt (rT (Kd.R_mono (Kd.R_far (p := ⟨gb520, 1, none⟩) (Kd.R_far (p := ⟨gb520, 0, none⟩) (Kd.R_types HO516.out BK520.out (by decide)) (fun _ hk => hk.2) (.slice Ao35 t514.length co35)) (fun _ hk => hk.2) (.slice Ao39 t517.length co39)) (fun _ h_ => h_.1))))) (Kd.R_lt (rT (Kd.R_mono (Kd.R_far (p := ⟨gb520, 1, none⟩) (Kd.R_far (p := ⟨gb520, 0, none⟩) (Kd.R_types HO519.out BK520.out (by decide)) (fun _ hk => hk.2) (.slice Ao35 t514.length co35)) (fun _ hk => hk.2) (.slice Ao39 t517.length co39)) (fun _ h_ => h_.1))))) (below_size (bP HB))); replace HO499 := Aside0.mk (Kd.R_elder' (rT (Kd.R_mono (Kd.R_far (p := ⟨gb520, 1, none⟩) (Kd.R_far (p := ⟨gb520, 0, none⟩) (Kd.R_types HO499.out BK520.out (by decide)) (fun _ hk => hk.2) (.slice Ao35 t514.length co35)) (fun _ hk => hk.2) (.slice Ao39 t517.length co39)) (fun _ h_ => h_.1))) (Kd.R_base ho0) hb); replace HO502 := Aside0.mk (Kd.R_elder' (rT (Kd.R_mono (Kd.R_far (p := ⟨gb520, 1, none⟩) (Kd.R_far (p := ⟨gb520, 0, none⟩) (Kd.R_types HO502.out BK520.out (by decide)) (fun _ hk => hk.2) (.slice Ao35 t514.length co35)) (fun _ hk => hk.2) (.slice Ao39 t517.length co39)) (fun _ h_ => h_.1))) (Kd.R_base ho0) hb); replace HO505 := Aside0.mk (Kd.R_elder' (rT (Kd.R_mono (Kd.R_far (p := ⟨gb520, 1, none⟩) (Kd.R_far (p := ⟨gb520, 0, none⟩) (Kd.R_types HO505.out BK520.out (by decide)) (fun _ hk => hk.2) (.slice Ao35 t514.length co35)) (fun _ hk => hk.2) (.slice Ao39 t517.length co39)) (fun _ h_ => h_.1))) (Kd.R_base ho0) hb); replace HO508 := Aside0.mk (Kd.R_elder' (rT (Kd.R_mono (Kd.R_far (p := ⟨gb520, 1, none⟩) (Kd.R_far (p := ⟨gb520, 0, none⟩) (Kd.R_types HO508.out BK520.out (by decide)) (fun _ hk => hk.2) (.slice Ao35 t514.length co35)) (fun _ hk => hk.2) (.slice Ao39 t517.length co39)) (fun _ h_ => h_.1))) (Kd.R_base ho0) hb); replace HO511 := Aside0.mk (Kd.R_elder' (rT (Kd.R_mono (Kd.R_far (p := ⟨gb520, 1, none⟩) (Kd.R_far (p := ⟨gb520, 0, none⟩) (Kd.R_types HO511.out BK520.out (by decide)) (fun _ hk => hk.2) (.slice Ao35 t514.length co35)) (fun _ hk => hk.2) (.slice Ao39 t517.length co39)) (fun _ h_ => h_.1))) (Kd.R_base ho0) hb); replace HO516 := Aside0.mk (Kd.R_elder' (rT (Kd.R_mono (Kd.R_far (p := ⟨gb520, 1, none⟩) (Kd.R_far (p := ⟨gb520, 0, none⟩) (Kd.R_types HO516.out BK520.out (by decide)) (fun _ hk => hk.2) (.slice Ao35 t514.length co35)) (fun _ hk => hk.2) (.slice Ao39 t517.length co39)) (fun _ h_ => h_.1))) (Kd.R_base ho0) hb); replace HO519 := Aside0.mk (Kd.R_elder' (rT (Kd.R_mono (Kd.R_far (p := ⟨gb520, 1, none⟩) (Kd.R_far (p := ⟨gb520, 0, none⟩) (Kd.R_types HO519.out BK520.out (by decide)) (fun _ hk => hk.2) (.slice Ao35 t514.length co35)) (fun _ hk => hk.2) (.slice Ao39 t517.length co39)) (fun _ h_ => h_.1))) (Kd.R_base ho0) hb); replace BK495 := kG BK495 hb; replace BK513 := kG BK513 hb; replace BK520 := Aside0.mk (blk_below (g := gb520) (o := .cells #[.slice Ao35 t514.length co35, .slice Ao39 t517.length co39] 40 (0, 0)) (by (with_reducible repeat (first | refine blk_drewN ?_ _ | refine blk_drew ?_ | refine blk_alloc ?_ _)); refine blk_put (cs := #[.slice Ao35 t514.length co35, .slice none 0 0]) ?_ 1 _ rfl; (with_reducible repeat (first | refine blk_drewN ?_ _ | refine blk_drew ?_ | refine blk_alloc ?_ _)); refine blk_put (cs := #[.slice none 0 0, .slice none 0 0]) ?_ 0 _ rfl; (with_reducible repeat (first | refine blk_drewN ?_ _ | refine blk_drew ?_ | refine blk_alloc ?_ _)); exact BK520.out) hb); replace HB := bS HB hb; (try clear hb); (try clear hb2); (try clear hk); (try clear hi); (try clear ho0); have hcz41_0 := zc0 BK520; have hcz41_1 := zc1 BK520; have hfz41_0 := blk_frozen BK520.out 0; have hfz41_1 := blk_frozen BK520.out 1; obtain ⟨Ao42, co42, eo42⟩ := Kd.R_slice HO523.out; subst eo42) | ((with_reducible refine gate_callee (f := 25) rfl ?_); refine gL (some 40) Try.func25 #[.agg #[.slice Ao35 t514.length co35, .slice Ao39 t517.length co39], .slice Ao42 t521.length co42] ?_; (with_reducible refine (impl_MapRename.calls k _ _ t514 _ _ t517 _ _ t521 t524 t527 t530 _ ?side1 ?side2 ?side3 ?side4 ?side5 ?side6 A15.out).mono ?_); (case side1 => exact cP (Kd.R_reads' HO516.out).2.2); (case side2 => exact (Kd.R_reads' HO516.out).2.1); (case side3 => exact cP (Kd.R_reads' HO519.out).2.2); (case side4 => exact (Kd.R_reads' HO519.out).2.1); (case side5 => exact cP (Kd.R_reads' HO523.out).2.2); (case side6 => exact (Kd.R_reads' HO523.out).2.1); rintro e w43 ⟨v525, v528, rfl, ho0, ho1, hb⟩; refine ⟨_, rfl, ?_⟩; have HO526 := Aside0.mk (Kd.R_lower (Kd.R_new' (Kd.R_new' (Kd.R_new' (Kd.R_new' (Kd.R_new' (Kd.R_new' (Kd.R_new' (Kd.R_new' ho0 (Kd.R_lt (rP HO499))) (Kd.R_lt (rP HO502))) (Kd.R_lt (rP HO505))) (Kd.R_lt (rP HO508))) (Kd.R_lt (rP HO511))) (Kd.R_lt (rP HO516))) (Kd.R_lt (rP HO519))) (Kd.R_lt (rP HO523))) (below_size (bP HB))); have HO529 := Aside0.mk (Kd.R_lower (Kd.R_new' (Kd.R_new' (Kd.R_new' (Kd.R_new' (Kd.R_new' (Kd.R_new' (Kd.R_new' (Kd.R_new' ho1 (Kd.R_lt (rP HO499))) (Kd.R_lt (rP HO502))) (Kd.R_lt (rP HO505))) (Kd.R_lt (rP HO508))) (Kd.R_lt (rP HO511))) (Kd.R_lt (rP HO516))) (Kd.R_lt (rP HO519))) (Kd.R_lt (rP HO523))) (below_size (bP HB))); replace HO499 := Aside0.mk (Kd.R_mono (Kd.R_told (Kd.R_told (Kd.R_old (rP HO499) hb) (Kd.R_base ho0)) (Kd.R_base ho1)) (fun _ h_ => h_.1)); replace HO502 := Aside0.mk (Kd.R_mono (Kd.R_told (Kd.R_told (Kd.R_old (rP HO502) hb) (Kd.R_base ho0)) (Kd.R_base ho1)) (fun _ h_ => h_.1)); replace HO505 := Aside0.mk (Kd.R_mono (Kd.R_told (Kd.R_told (Kd.R_old (rP HO505) hb) (Kd.R_base ho0)) (Kd.R_base ho1)) (fun _ h_ => h_.1)); replace HO508 := Aside0.mk (Kd.R_mono (Kd.R_told (Kd.R_told (Kd.R_old (rP HO508) hb) (Kd.R_base ho0)) (Kd.R_base ho1)) (fun _ h_ => h_.1)); replace HO511 := Aside0.mk (Kd.R_mono (Kd.R_told (Kd.R_told (Kd.R_old (rP HO511) hb) (Kd.R_base ho0)) (Kd.R_base ho1)) (fun _ h_ => h_.1)); replace HO516 := Aside0.mk (Kd.R_mono (Kd.R_told (Kd.R_told (Kd.R_old (rP HO516) hb) (Kd.R_base ho0)) (Kd.R_base ho1)) (fun _ h_ => h_.1)); replace HO519 := Aside0.mk (Kd.R_mono (Kd.R_told (Kd.R_told (Kd.R_old (rP HO519) hb) (Kd.R_base ho0)) (Kd.R_base ho1)) (fun _ h_ => h_.1)); replace HO523 := Aside0.mk (Kd.R_mono (Kd.R_told (Kd.R_told (Kd.R_old (rP HO523) hb) (Kd.R_base ho0)) (Kd.R_base ho1)) (fun _ h_ => h_.1)); replace BK495 := kB BK495 hb; replace BK513 := kB BK513 hb; replace BK520 := kB BK520 hb; replace HB := bS HB hb; (try clear hb); (try clear hb2); (try clear hk); (try clear hi); (try clear ho0); (try clear ho1)) | ((with_reducible refine gate_dst (N := 10) rfl ?_); refine bE 10 #[.slice none 0 0, .slice none 0 0] 40 ?_; intro gb531 hg w44 hbox hb; replace HO499 := rB HO499 hb; replace HO502 := rB HO502 hb; replace HO505 := rB HO505 hb; replace HO508 := rB HO508 hb; replace HO511 := rB HO511 hb; replace HO516 := rB HO516 hb; replace HO519 := rB HO519 hb; replace HO523 := rB HO523 hb; replace HO526 := rB HO526 hb; replace HO529 := rB HO529 hb; have BK531 := Aside0.mk (hbox); have GW531 := gS HB hg; have GE531 := gS HB hg; replace HB := bS HB hb; have NB495_531 := nL BK495 hg; have NB531_495 := nG BK495 hg; replace BK495 := kB BK495 hb; have NB513_531 := nL BK513 hg; have NB531_513 := nG BK513 hg; replace BK513 := kB BK513 hb; have NB520_531 := nL BK520 hg; have NB531_520 := nG BK520 hg; replace BK520 := kB BK520 hb; clear hb hbox hg; obtain ⟨Ao45, co45, eo45⟩ := Kd.R_slice HO526.out; subst eo45; have hnb46 := NB531_495.out; have hnc46 := NB495_531.out; have hnb47 := NB531_513.out; have hnc47 := NB513_531.out; have hnb48 := NB531_520.out; have hnc48 := NB520_531.out; have hcz49_0 := zc0 BK531; have hcz49_1 := zc1 BK531; have hfz49_0 := blk_frozen BK531.out 0; have hfz49_1 := blk_frozen BK531.out 1; obtain ⟨Ao50, co50, eo50⟩ := Kd.R_slice HO529.out; subst eo50))
   (try simp only [Act.put, List.setIfInBounds_toArray, List.set_cons_zero, List.set_cons_succ])
   go_cut [51] (fun v51 wc => ∃ (kq : Nat) (x51_15 : Bool), v51 = .bool x51_15 ∧ Aside0 (laws_FnExactMapRename.j0 kq l1 t512 t521 t530 x51_15 l0_0 l0_1 t506 t509 t514 t517 t524 t527 = some r) ∧ Aside0 (kq ≤ k) ∧ Aside0 (Kd.R (Kd.int .i64) 3 wc w.heap.size (fun k_ => some k_ ≠ ((.slice Ao28 t506.length co28) : Value).ownBlock ∧ some k_ ≠ ((.slice Ao31 t509.length co31) : Value).ownBlock ∧ some k_ ≠ ((.slice Ao35 t514.length co35) : Value).ownBlock ∧ some k_ ≠ ((.slice Ao39 t517.length co39) : Value).ownBlock ∧ some k_ ≠ ((.slice Ao45 t524.length co45) : Value).ownBlock ∧ some k_ ≠ ((.slice Ao50 t527.length co50) : Value).ownBlock) (.slice Ao42 t521.length co42) t521) ∧ Aside0 (Kd.R (Kd.int .i64) 3 wc w.heap.size (fun k_ => some k_ ≠ ((.slice Ao42 t521.length co42) : Value).ownBlock ∧ some k_ ≠ ((.slice Ao31 t509.length co31) : Value).ownBlock ∧ some k_ ≠ ((.slice Ao35 t514.length co35) : Value).ownBlock ∧ some k_ ≠ ((.slice Ao39 t517.length co39) : Value).ownBlock ∧ some k_ ≠ ((.slice Ao45 t524.length co45) : Value).ownBlock ∧ some k_ ≠ ((.slice Ao50 t527.length co50) : Value).ownBlock) (.slice Ao28 t506.length co28) t506) ∧ Aside0 (Kd.R (Kd.int .i64) 3 wc w.heap.size (fun k_ => some k_ ≠ ((.slice Ao42 t521.length co42) : Value).ownBlock ∧ some k_ ≠ ((.slice Ao28 t506.length co28) : Value).ownBlock ∧ some k_ ≠ ((.slice Ao35 t514.length co35) : Value).ownBlock ∧ some k_ ≠ ((.slice Ao39 t517.length co39) : Value).ownBlock ∧ some k_ ≠ ((.slice Ao45 t524.length co45) : Value).ownBlock ∧ some k_ ≠ ((.slice Ao50 t527.length co50) : Value).ownBlock) (.slice Ao31 t509.length co31) t509) ∧ Aside0 (Kd.R (Kd.int .i64) 3 wc w.heap.size (fun k_ => some k_ ≠ ((.slice Ao42 t521.length co42) : Value).ownBlock ∧ some k_ ≠ ((.slice Ao28 t506.length co28) : Value).ownBlock ∧ some k_ ≠ ((.slice Ao31 t509.length co31) : Value).ownBlock ∧ some k_ ≠ ((.slice Ao39 t517.length co39) : Value).ownBlock ∧ some k_ ≠ ((.slice Ao45 t524.length co45) : Value).ownBlock ∧ some k_ ≠ ((.slice Ao50 t527.length co50) : Value).ownBlock) (.slice Ao35 t514.length co35) t514) ∧ Aside0 (Kd.R (Kd.int .i64) 3 wc w.heap.size (fun k_ => some k_ ≠ ((.slice Ao42 t521.length co42) : Value).ownBlock ∧ some k_ ≠ ((.slice Ao28 t506.length co28) : Value).ownBlock ∧ some k_ ≠ ((.slice Ao31 t509.length co31) : Value).ownBlock ∧ some k_ ≠ ((.slice Ao35 t514.length co35) : Value).ownBlock ∧ some k_ ≠ ((.slice Ao45 t524.length co45) : Value).ownBlock ∧ some k_ ≠ ((.slice Ao50 t527.length co50) : Value).ownBlock) (.slice Ao39 t517.length co39) t517) ∧ Aside0 (Kd.R (Kd.int .i64) 3 wc w.heap.size (fun k_ => some k_ ≠ ((.slice Ao42 t521.length co42) : Value).ownBlock ∧ some k_ ≠ ((.slice Ao28 t506.length co28) : Value).ownBlock ∧ some k_ ≠ ((.slice Ao31 t509.length co31) : Value).ownBlock ∧ some k_ ≠ ((.slice Ao35 t514.length co35) : Value).ownBlock ∧ some k_ ≠ ((.slice Ao39 t517.length co39) : Value).ownBlock ∧ some k_ ≠ ((.slice Ao50 t527.length co50) : Value).ownBlock) (.slice Ao45 t524.length co45) t524) ∧ Aside0 (Kd.R (Kd.int .i64) 3 wc w.heap.size (fun k_ => some k_ ≠ ((.slice Ao42 t521.length co42) : Value).ownBlock ∧ some k_ ≠ ((.slice Ao28 t506.length co28) : Value).ownBlock ∧ some k_ ≠ ((.slice Ao31 t509.length co31) : Value).ownBlock ∧ some k_ ≠ ((.slice Ao35 t514.length co35) : Value).ownBlock ∧ some k_ ≠ ((.slice Ao39 t517.length co39) : Value).ownBlock ∧ some k_ ≠ ((.slice Ao45 t524.length co45) : Value).ownBlock) (.slice Ao50 t527.length co50) t527) ∧ Aside0 (wc.heap[gb495]? = some (.cells #[(.slice A0_0 l0_0.length c0_0), (.slice A0_1 l0_1.length c0_1)] 37 (0, 0))) ∧ Aside0 (wc.heap[gb513]? = some (.cells #[(.slice Ao28 t506.length co28), (.slice Ao31 t509.length co31)] 40 (0, 0))) ∧ Aside0 (wc.heap[gb520]? = some (.cells #[(.slice Ao35 t514.length co35), (.slice Ao39 t517.length co39)] 40 (0, 0))) ∧ Aside0 (wc.heap[gb531]? = some (.cells #[(.slice Ao45 t524.length co45), (.slice Ao50 t527.length co50)] 40 (0, 0))) ∧ Aside0 (Below w.heap.size w wc))
   case first =>
    have H := HC16.out
    clear HC16
    replace H := Option.bind_eq_some_iff.mp H
    obtain ⟨t532, A510, H⟩ := H
    try dsimp only at H
    have A51 := Aside0.mk A510
    clear A510
    by_cases c52 : t532 = true
    ·subst c52
     rw [if_pos rfl] at H
     have H' := Aside0.mk H
     clear H
     have hnb53 := NB531_495.out
     have hnc53 := NB495_531.out
     have hnb54 := NB531_513.out
     have hnc54 := NB513_531.out
     have hnb55 := NB531_520.out
     have hnc55 := NB520_531.out
     have hcz56_0 := zc0 BK531
     have hcz56_1 := zc1 BK531
     have hfz56_0 := blk_frozen BK531.out 0
     have hfz56_1 := blk_frozen BK531.out 1
     have hnb57 := NB513_495.out
     have hnc57 := NB495_513.out
     have hnb58 := NB513_520.out
     have hnc58 := NB520_513.out
     have hcz59_0 := zc0 BK513
     have hcz59_1 := zc1 BK513
     have hfz59_0 := blk_frozen BK513.out 0
     have hfz59_1 := blk_frozen BK513.out 1
     go_wp2_with (first | ((with_reducible refine gate_callee (f := 23) rfl ?_); refine gL (some 45) Try.func23 #[.agg #[.slice Ao45 t524.length co45, .slice Ao50 t527.length co50], .agg #[.slice Ao28 t506.length co28, .slice Ao31 t509.length co31]] ?_; (with_reducible refine (laws_eqMap.calls k _ _ t524 _ _ t527 _ _ t506 _ _ t509 true _ ?side1 ?side2 ?side3 ?side4 ?side5 ?side6 ?side7 ?side8 A51.out).mono ?_); (case side1 => refine (Kd.R_reads' (e := 3) (base := w.heap.size) (ok := fun k_ => ((((((((some k_ ≠ (.slice Ao50 t527.length co50 : Value).ownBlock ∧ some k_ ≠ (.slice Ao23 t497.length co23 : Value).ownBlock) ∧ some k_ ≠ (.slice Ao24 t500.length co24 : Value).ownBlock) ∧ some k_ ≠ (.slice Ao25 t503.length co25 : Value).ownBlock) ∧ some k_ ≠ (.slice Ao28 t506.length co28 : Value).ownBlock) ∧ some k_ ≠ (.slice Ao31 t509.length co31 : Value).ownBlock) ∧ some k_ ≠ (.slice Ao35 t514.length co35 : Value).ownBlock) ∧ some k_ ≠ (.slice Ao39 t517.length co39 : Value).ownBlock) ∧ some k_ ≠ (.slice Ao42 t521.length co42 : Value).ownBlock)) (n := t524.length) (c := co45) ?_).2.2; exact (rT (Kd.R_mono (Kd.R_far (p := ⟨gb531, 1, none⟩) (Kd.R_far (p := ⟨gb531, 0, none⟩) (Kd.R_types HO526.out BK531.out (by decide)) (fun _ hk => hk.2) (.slice Ao45 t524.length co45)) (fun _ hk => hk.2) (.slice Ao50 t527.length co50)) (fun _ h_ => h_.1)))); (case side2 => exact (Kd.R_reads' HO526.out).2.1); (case side3 => refine (Kd.R_reads' (e := 3) (base := w.heap.size) (ok := fun k_ => ((((((((some k_ ≠ (.slice Ao45 t524.length co45 : Value).ownBlock ∧ some k_ ≠ (.slice Ao23 t497.length co23 : Value).ownBlock) ∧ some k_ ≠ (.slice Ao24 t500.length co24 : Value).ownBlock) ∧ some k_ ≠ (.slice Ao25 t503.length co25 : Value).ownBlock) ∧ some k_ ≠ (.slice Ao28 t506.length co28 : Value).ownBlock) ∧ some k_ ≠ (.slice Ao31 t509.length co31 : Value).ownBlock) ∧ some k_ ≠ (.slice Ao35 t514.length co35 : Value).ownBlock) ∧ some k_ ≠ (.slice Ao39 t517.length co39 : Value).ownBlock) ∧ some k_ ≠ (.slice Ao42 t521.length co42 : Value).ownBlock)) (n := t527.length) (c := co50) ?_).2.2; exact (rT (Kd.R_mono (Kd.R_far (p := ⟨gb531, 1, none⟩) (Kd.R_far (p := ⟨gb531, 0, none⟩) (Kd.R_types HO529.out BK531.out (by decide)) (fun _ hk => hk.2) (.slice Ao45 t524.length co45)) (fun _ hk => hk.2) (.slice Ao50 t527.length co50)) (fun _ h_ => h_.1)))); (case side4 => exact (Kd.R_reads' HO529.out).2.1); (case side5 => refine (Kd.R_reads' (e := 3) (base := w.heap.size) (ok := fun k_ => ((((((((some k_ ≠ (.slice Ao31 t509.length co31 : Value).ownBlock ∧ some k_ ≠ (.slice Ao23 t497.length co23 : Value).ownBlock) ∧ some k_ ≠ (.slice Ao24 t500.length co24 : Value).ownBlock) ∧ some k_ ≠ (.slice Ao25 t503.length co25 : Value).ownBlock) ∧ some k_ ≠ (.slice Ao35 t514.length co35 : Value).ownBlock) ∧ some k_ ≠ (.slice Ao39 t517.length co39 : Value).ownBlock) ∧ some k_ ≠ (.slice Ao42 t521.length co42 : Value).ownBlock) ∧ some k_ ≠ (.slice Ao45 t524.length co45 : Value).ownBlock) ∧ some k_ ≠ (.slice Ao50 t527.length co50 : Value).ownBlock)) (n := t506.length) (c := co28) ?_).2.2; exact (rT (Kd.R_mono (Kd.R_far (p := ⟨gb531, 1, none⟩) (Kd.R_far (p := ⟨gb531, 0, none⟩) (Kd.R_types HO508.out BK531.out (by decide)) (fun _ hk => hk.2) (.slice Ao45 t524.length co45)) (fun _ hk => hk.2) (.slice Ao50 t527.length co50)) (fun _ h_ => h_.1)))); (case side6 => exact (Kd.R_reads' HO508.out).2.1); (case side7 => refine (Kd.R_reads' (e := 3) (base := w.heap.size) (ok := fun k_ => ((((((((some k_ ≠ (.slice Ao28 t506.length co28 : Value).ownBlock ∧ some k_ ≠ (.slice Ao23 t497.length co23 : Value).ownBlock) ∧ some k_ ≠ (.slice Ao24 t500.length co24 : Value).ownBlock) ∧ some k_ ≠ (.slice Ao25 t503.length co25 : Value).ownBlock) ∧ some k_ ≠ (.slice Ao35 t514.length co35 : Value).ownBlock) ∧ some k_ ≠ (.slice Ao39 t517.length co39 : Value).ownBlock) ∧ some k_ ≠ (.slice Ao42 t521.length co42 : Value).ownBlock) ∧ some k_ ≠ (.slice Ao45 t524.length co45 : Value).ownBlock) ∧ some k_ ≠ (.slice Ao50 t527.length co50 : Value).ownBlock)) (n := t509.length) (c := co31) ?_).2.2; exact (rT (Kd.R_mono (Kd.R_far (p := ⟨gb531, 1, none⟩) (Kd.R_far (p := ⟨gb531, 0, none⟩) (Kd.R_types HO511.out BK531.out (by decide)) (fun _ hk => hk.2) (.slice Ao45 t524.length co45)) (fun _ hk => hk.2) (.slice Ao50 t527.length co50)) (fun _ h_ => h_.1)))); (case side8 => exact (Kd.R_reads' HO511.out).2.1); rintro e w60 ⟨rfl, hb⟩; refine ⟨_, rfl, ?_⟩; replace HO499 := Aside0.mk (Kd.R_below (rT (Kd.R_mono (Kd.R_far (p := ⟨gb531, 1, none⟩) (Kd.R_far (p := ⟨gb531, 0, none⟩) (Kd.R_types HO499.out BK531.out (by decide)) (fun _ hk => hk.2) (.slice Ao45 t524.length co45)) (fun _ hk => hk.2) (.slice Ao50 t527.length co50)) (fun _ h_ => h_.1))) hb); replace HO502 := Aside0.mk (Kd.R_below (rT (Kd.R_mono (Kd.R_far (p := ⟨gb531, 1, none⟩) (Kd.R_far (p := ⟨gb531, 0, none⟩) (Kd.R_types HO502.out BK531.out (by decide)) (fun _ hk => hk.2) (.slice Ao45 t524.length co45)) (fun _ hk => hk.2) (.slice Ao50 t527.length co50)) (fun _ h_ => h_.1))) hb); replace HO505 := Aside0.mk (Kd.R_below (rT (Kd.R_mono (Kd.R_far (p := ⟨gb531, 1, none⟩) (Kd.R_far (p := ⟨gb531, 0, none⟩) (Kd.R_types HO505.out BK531.out (by decide)) (fun _ hk => hk.2) (.slice Ao45 t524.length co45)) (fun _ hk => hk.2) (.slice Ao50 t527.length co50)) (fun _ h_ => h_.1))) hb); replace HO508 := Aside0.mk (Kd.R_below (rT (Kd.R_mono (Kd.R_far (p := ⟨gb531, 1, none⟩) (Kd.R_far (p := ⟨gb531, 0, none⟩) (Kd.R_types HO508.out BK531.out (by decide)) (fun _ hk => hk.2) (.slice Ao45 t524.length co45)) (fun _ hk => hk.2) (.slice Ao50 t527.length co50)) (fun _ h_ => h_.1))) hb); replace HO511 := Aside0.mk (Kd.R_below (rT (Kd.R_mono (Kd.R_far (p := ⟨gb531, 1, none⟩) (Kd.R_far (p := ⟨gb531, 0, none⟩) (Kd.R_types HO511.out BK531.out (by decide)) (fun _ hk => hk.2) (.slice Ao45 t524.length co45)) (fun _ hk => hk.2) (.slice Ao50 t527.length co50)) (fun _ h_ => h_.1))) hb); replace HO516 := Aside0.mk (Kd.R_below (rT (Kd.R_mono (Kd.R_far (p := ⟨gb531, 1, none⟩) (Kd.R_far (p := ⟨gb531, 0, none⟩) (Kd.R_types HO516.out BK531.out (by decide)) (fun _ hk => hk.2) (.slice Ao45 t524.length co45)) (fun _ hk => hk.2) (.slice Ao50 t527.length co50)) (fun _ h_ => h_.1))) hb); replace HO519 := Aside0.mk (Kd.R_below (rT (Kd.R_mono (Kd.R_far (p := ⟨gb531, 1, none⟩) (Kd.R_far (p := ⟨gb531, 0, none⟩) (Kd.R_types HO519.out BK531.out (by decide)) (fun _ hk => hk.2) (.slice Ao45 t524.length co45)) (fun _ hk => hk.2) (.slice Ao50 t527.length co50)) (fun _ h_ => h_.1))) hb); replace HO523 := Aside0.mk (Kd.R_below (rT (Kd.R_mono (Kd.R_far (p := ⟨gb531, 1, none⟩) (Kd.R_far (p := ⟨gb531, 0, none⟩) (Kd.R_types HO523.out BK531.out (by decide)) (fun _ hk => hk.2) (.slice Ao45 t524.length co45)) (fun _ hk => hk.2) (.slice Ao50 t527.length co50)) (fun _ h_ => h_.1))) hb); replace HO526 := Aside0.mk (Kd.R_below (rT (Kd.R_mono (Kd.R_far (p := ⟨gb531, 1, none⟩) (Kd.R_far (p := ⟨gb531, 0, none⟩) (Kd.R_types HO526.out BK531.out (by decide)) (fun _ hk => hk.2) (.slice Ao45 t524.length co45)) (fun _ hk => hk.2) (.slice Ao50 t527.length co50)) (fun _ h_ => h_.1))) hb); replace HO529 := Aside0.mk (Kd.R_below (rT (Kd.R_mono (Kd.R_far (p := ⟨gb531, 1, none⟩) (Kd.R_far (p := ⟨gb531, 0, none⟩) (Kd.R_types HO529.out BK531.out (by decide)) (fun _ hk => hk.2) (.slice Ao45 t524.length co45)) (fun _ hk => hk.2) (.slice Ao50 t527.length co50)) (fun _ h_ => h_.1))) hb); replace BK495 := kG BK495 hb; replace BK513 := kG BK513 hb; replace BK520 := kG BK520 hb; replace BK531 := Aside0.mk (blk_below (g := gb531) (o := .cells #[.slice Ao45 t524.length co45, .slice Ao50 t527.length co50] 40 (0, 0)) (by (with_reducible repeat (first | refine blk_drewN ?_ _ | refine blk_drew ?_ | refine blk_alloc ?_ _)); refine blk_put (cs := #[.slice Ao45 t524.length co45, .slice none 0 0]) ?_ 1 _ rfl; (with_reducible repeat (first | refine blk_drewN ?_ _ | refine blk_drew ?_ | refine blk_alloc ?_ _)); refine blk_put (cs := #[.slice none 0 0, .slice none 0 0]) ?_ 0 _ rfl; (with_reducible repeat (first | refine blk_drewN ?_ _ | refine blk_drew ?_ | refine blk_alloc ?_ _)); exact BK531.out) hb); replace HB := bS HB hb; (try clear hb); (try clear hb2); (try clear hk); (try clear hi)))
     go_meet
     case rel => exact ⟨_, ((t530 != t512)), eS, H', ⟨by first | omega | exact Nat.le_refl _⟩, ⟨by (with_reducible repeat (first | apply Kd.R_alloc | apply Kd.R_drewN | apply Kd.R_drew)); exact Kd.R_mono HO523.out (fun _ hk => ⟨hk.1.1.1.1.1.2, ⟨hk.1.1.1.1.2, ⟨hk.1.1.1.2, ⟨hk.1.1.2, ⟨hk.1.2, hk.2⟩⟩⟩⟩⟩)⟩, ⟨by (with_reducible repeat (first | apply Kd.R_alloc | apply Kd.R_drewN | apply Kd.R_drew)); exact Kd.R_mono HO508.out (fun _ hk => ⟨hk.1.1.2, ⟨hk.1.1.1.1.1.1.1.1, ⟨hk.1.1.1.1.2, ⟨hk.1.1.1.2, ⟨hk.1.2, hk.2⟩⟩⟩⟩⟩)⟩, ⟨by (with_reducible repeat (first | apply Kd.R_alloc | apply Kd.R_drewN | apply Kd.R_drew)); exact Kd.R_mono HO511.out (fun _ hk => ⟨hk.1.1.2, ⟨hk.1.1.1.1.1.1.1.1, ⟨hk.1.1.1.1.2, ⟨hk.1.1.1.2, ⟨hk.1.2, hk.2⟩⟩⟩⟩⟩)⟩, ⟨by (with_reducible repeat (first | apply Kd.R_alloc | apply Kd.R_drewN | apply Kd.R_drew)); exact Kd.R_mono HO516.out (fun _ hk => ⟨hk.1.1.2, ⟨hk.1.1.1.1.2, ⟨hk.1.1.1.2, ⟨hk.1.1.1.1.1.1.1.1, ⟨hk.1.2, hk.2⟩⟩⟩⟩⟩)⟩, ⟨by (with_reducible repeat (first | apply Kd.R_alloc | apply Kd.R_drewN | apply Kd.R_drew)); exact Kd.R_mono HO519.out (fun _ hk => ⟨hk.1.1.2, ⟨hk.1.1.1.1.2, ⟨hk.1.1.1.2, ⟨hk.1.1.1.1.1.1.1.1, ⟨hk.1.2, hk.2⟩⟩⟩⟩⟩)⟩, ⟨by (with_reducible repeat (first | apply Kd.R_alloc | apply Kd.R_drewN | apply Kd.R_drew)); exact Kd.R_mono HO526.out (fun _ hk => ⟨hk.2, ⟨hk.1.1.1.1.2, ⟨hk.1.1.1.2, ⟨hk.1.1.2, ⟨hk.1.2, hk.1.1.1.1.1.1.1.1⟩⟩⟩⟩⟩)⟩, ⟨by (with_reducible repeat (first | apply Kd.R_alloc | apply Kd.R_drewN | apply Kd.R_drew)); exact Kd.R_mono HO529.out (fun _ hk => ⟨hk.2, ⟨hk.1.1.1.1.2, ⟨hk.1.1.1.2, ⟨hk.1.1.2, ⟨hk.1.2, hk.1.1.1.1.1.1.1.1⟩⟩⟩⟩⟩)⟩, ⟨kP BK495⟩, ⟨kP BK513⟩, ⟨kP BK520⟩, ⟨kP BK531⟩, ⟨bP HB⟩⟩
    ·replace c52 := Bool.eq_false_iff.mpr c52
     subst c52
     rw [if_neg (show ¬ (false = true) by decide)] at H
     have H' := Aside0.mk H
     clear H
     have hnb61 := NB531_495.out
     have hnc61 := NB495_531.out
     have hnb62 := NB531_513.out
     have hnc62 := NB513_531.out
     have hnb63 := NB531_520.out
     have hnc63 := NB520_531.out
     have hcz64_0 := zc0 BK531
     have hcz64_1 := zc1 BK531
     have hfz64_0 := blk_frozen BK531.out 0
     have hfz64_1 := blk_frozen BK531.out 1
     have hnb65 := NB513_495.out
     have hnc65 := NB495_513.out
     have hnb66 := NB513_520.out
     have hnc66 := NB520_513.out
     have hcz67_0 := zc0 BK513
     have hcz67_1 := zc1 BK513
     have hfz67_0 := blk_frozen BK513.out 0
     have hfz67_1 := blk_frozen BK513.out 1
     go_wp2_with (first | ((with_reducible refine gate_callee (f := 23) rfl ?_); refine gL (some 45) Try.func23 #[.agg #[.slice Ao45 t524.length co45, .slice Ao50 t527.length co50], .agg #[.slice Ao28 t506.length co28, .slice Ao31 t509.length co31]] ?_; (with_reducible refine (laws_eqMap.calls k _ _ t524 _ _ t527 _ _ t506 _ _ t509 false _ ?side1 ?side2 ?side3 ?side4 ?side5 ?side6 ?side7 ?side8 A51.out).mono ?_); (case side1 => refine (Kd.R_reads' (e := 3) (base := w.heap.size) (ok := fun k_ => ((((((((some k_ ≠ (.slice Ao50 t527.length co50 : Value).ownBlock ∧ some k_ ≠ (.slice Ao23 t497.length co23 : Value).ownBlock) ∧ some k_ ≠ (.slice Ao24 t500.length co24 : Value).ownBlock) ∧ some k_ ≠ (.slice Ao25 t503.length co25 : Value).ownBlock) ∧ some k_ ≠ (.slice Ao28 t506.length co28 : Value).ownBlock) ∧ some k_ ≠ (.slice Ao31 t509.length co31 : Value).ownBlock) ∧ some k_ ≠ (.slice Ao35 t514.length co35 : Value).ownBlock) ∧ some k_ ≠ (.slice Ao39 t517.length co39 : Value).ownBlock) ∧ some k_ ≠ (.slice Ao42 t521.length co42 : Value).ownBlock)) (n := t524.length) (c := co45) ?_).2.2; exact (rT (Kd.R_mono (Kd.R_far (p := ⟨gb531, 1, none⟩) (Kd.R_far (p := ⟨gb531, 0, none⟩) (Kd.R_types HO526.out BK531.out (by decide)) (fun _ hk => hk.2) (.slice Ao45 t524.length co45)) (fun _ hk => hk.2) (.slice Ao50 t527.length co50)) (fun _ h_ => h_.1)))); (case side2 => exact (Kd.R_reads' HO526.out).2.1); (case side3 => refine (Kd.R_reads' (e := 3) (base := w.heap.size) (ok := fun k_ => ((((((((some k_ ≠ (.slice Ao45 t524.length co45 : Value).ownBlock ∧ some k_ ≠ (.slice Ao23 t497.length co23 : Value).ownBlock) ∧ some k_ ≠ (.slice Ao24 t500.length co24 : Value).ownBlock) ∧ some k_ ≠ (.slice Ao25 t503.length co25 : Value).ownBlock) ∧ some k_ ≠ (.slice Ao28 t506.length co28 : Value).ownBlock) ∧ some k_ ≠ (.slice Ao31 t509.length co31 : Value).ownBlock) ∧ some k_ ≠ (.slice Ao35 t514.length co35 : Value).ownBlock) ∧ some k_ ≠ (.slice Ao39 t517.length co39 : Value).ownBlock) ∧ some k_ ≠ (.slice Ao42 t521.length co42 : Value).ownBlock)) (n := t527.length) (c := co50) ?_).2.2; exact (rT (Kd.R_mono (Kd.R_far (p := ⟨gb531, 1, none⟩) (Kd.R_far (p := ⟨gb531, 0, none⟩) (Kd.R_types HO529.out BK531.out (by decide)) (fun _ hk => hk.2) (.slice Ao45 t524.length co45)) (fun _ hk => hk.2) (.slice Ao50 t527.length co50)) (fun _ h_ => h_.1)))); (case side4 => exact (Kd.R_reads' HO529.out).2.1); (case side5 => refine (Kd.R_reads' (e := 3) (base := w.heap.size) (ok := fun k_ => ((((((((some k_ ≠ (.slice Ao31 t509.length co31 : Value).ownBlock ∧ some k_ ≠ (.slice Ao23 t497.length co23 : Value).ownBlock) ∧ some k_ ≠ (.slice Ao24 t500.length co24 : Value).ownBlock) ∧ some k_ ≠ (.slice Ao25 t503.length co25 : Value).ownBlock) ∧ some k_ ≠ (.slice Ao35 t514.length co35 : Value).ownBlock) ∧ some k_ ≠ (.slice Ao39 t517.length co39 : Value).ownBlock) ∧ some k_ ≠ (.slice Ao42 t521.length co42 : Value).ownBlock) ∧ some k_ ≠ (.slice Ao45 t524.length co45 : Value).ownBlock) ∧ some k_ ≠ (.slice Ao50 t527.length co50 : Value).ownBlock)) (n := t506.length) (c := co28) ?_).2.2; exact (rT (Kd.R_mono (Kd.R_far (p := ⟨gb531, 1, none⟩) (Kd.R_far (p := ⟨gb531, 0, none⟩) (Kd.R_types HO508.out BK531.out (by decide)) (fun _ hk => hk.2) (.slice Ao45 t524.length co45)) (fun _ hk => hk.2) (.slice Ao50 t527.length co50)) (fun _ h_ => h_.1)))); (case side6 => exact (Kd.R_reads' HO508.out).2.1); (case side7 => refine (Kd.R_reads' (e := 3) (base := w.heap.size) (ok := fun k_ => ((((((((some k_ ≠ (.slice Ao28 t506.length co28 : Value).ownBlock ∧ some k_ ≠ (.slice Ao23 t497.length co23 : Value).ownBlock) ∧ some k_ ≠ (.slice Ao24 t500.length co24 : Value).ownBlock) ∧ some k_ ≠ (.slice Ao25 t503.length co25 : Value).ownBlock) ∧ some k_ ≠ (.slice Ao35 t514.length co35 : Value).ownBlock) ∧ some k_ ≠ (.slice Ao39 t517.length co39 : Value).ownBlock) ∧ some k_ ≠ (.slice Ao42 t521.length co42 : Value).ownBlock) ∧ some k_ ≠ (.slice Ao45 t524.length co45 : Value).ownBlock) ∧ some k_ ≠ (.slice Ao50 t527.length co50 : Value).ownBlock)) (n := t509.length) (c := co31) ?_).2.2; exact (rT (Kd.R_mono (Kd.R_far (p := ⟨gb531, 1, none⟩) (Kd.R_far (p := ⟨gb531, 0, none⟩) (Kd.R_types HO511.out BK531.out (by decide)) (fun _ hk => hk.2) (.slice Ao45 t524.length co45)) (fun _ hk => hk.2) (.slice Ao50 t527.length co50)) (fun _ h_ => h_.1)))); (case side8 => exact (Kd.R_reads' HO511.out).2.1); rintro e w68 ⟨rfl, hb⟩; refine ⟨_, rfl, ?_⟩; replace HO499 := Aside0.mk (Kd.R_below (rT (Kd.R_mono (Kd.R_far (p := ⟨gb531, 1, none⟩) (Kd.R_far (p := ⟨gb531, 0, none⟩) (Kd.R_types HO499.out BK531.out (by decide)) (fun _ hk => hk.2) (.slice Ao45 t524.length co45)) (fun _ hk => hk.2) (.slice Ao50 t527.length co50)) (fun _ h_ => h_.1))) hb); replace HO502 := Aside0.mk (Kd.R_below (rT (Kd.R_mono (Kd.R_far (p := ⟨gb531, 1, none⟩) (Kd.R_far (p := ⟨gb531, 0, none⟩) (Kd.R_types HO502.out BK531.out (by decide)) (fun _ hk => hk.2) (.slice Ao45 t524.length co45)) (fun _ hk => hk.2) (.slice Ao50 t527.length co50)) (fun _ h_ => h_.1))) hb); replace HO505 := Aside0.mk (Kd.R_below (rT (Kd.R_mono (Kd.R_far (p := ⟨gb531, 1, none⟩) (Kd.R_far (p := ⟨gb531, 0, none⟩) (Kd.R_types HO505.out BK531.out (by decide)) (fun _ hk => hk.2) (.slice Ao45 t524.length co45)) (fun _ hk => hk.2) (.slice Ao50 t527.length co50)) (fun _ h_ => h_.1))) hb); replace HO508 := Aside0.mk (Kd.R_below (rT (Kd.R_mono (Kd.R_far (p := ⟨gb531, 1, none⟩) (Kd.R_far (p := ⟨gb531, 0, none⟩) (Kd.R_types HO508.out BK531.out (by decide)) (fun _ hk => hk.2) (.slice Ao45 t524.length co45)) (fun _ hk => hk.2) (.slice Ao50 t527.length co50)) (fun _ h_ => h_.1))) hb); replace HO511 := Aside0.mk (Kd.R_below (rT (Kd.R_mono (Kd.R_far (p := ⟨gb531, 1, none⟩) (Kd.R_far (p := ⟨gb531, 0, none⟩) (Kd.R_types HO511.out BK531.out (by decide)) (fun _ hk => hk.2) (.slice Ao45 t524.length co45)) (fun _ hk => hk.2) (.slice Ao50 t527.length co50)) (fun _ h_ => h_.1))) hb); replace HO516 := Aside0.mk (Kd.R_below (rT (Kd.R_mono (Kd.R_far (p := ⟨gb531, 1, none⟩) (Kd.R_far (p := ⟨gb531, 0, none⟩) (Kd.R_types HO516.out BK531.out (by decide)) (fun _ hk => hk.2) (.slice Ao45 t524.length co45)) (fun _ hk => hk.2) (.slice Ao50 t527.length co50)) (fun _ h_ => h_.1))) hb); replace HO519 := Aside0.mk (Kd.R_below (rT (Kd.R_mono (Kd.R_far (p := ⟨gb531, 1, none⟩) (Kd.R_far (p := ⟨gb531, 0, none⟩) (Kd.R_types HO519.out BK531.out (by decide)) (fun _ hk => hk.2) (.slice Ao45 t524.length co45)) (fun _ hk => hk.2) (.slice Ao50 t527.length co50)) (fun _ h_ => h_.1))) hb); replace HO523 := Aside0.mk (Kd.R_below (rT (Kd.R_mono (Kd.R_far (p := ⟨gb531, 1, none⟩) (Kd.R_far (p := ⟨gb531, 0, none⟩) (Kd.R_types HO523.out BK531.out (by decide)) (fun _ hk => hk.2) (.slice Ao45 t524.length co45)) (fun _ hk => hk.2) (.slice Ao50 t527.length co50)) (fun _ h_ => h_.1))) hb); replace HO526 := Aside0.mk (Kd.R_below (rT (Kd.R_mono (Kd.R_far (p := ⟨gb531, 1, none⟩) (Kd.R_far (p := ⟨gb531, 0, none⟩) (Kd.R_types HO526.out BK531.out (by decide)) (fun _ hk => hk.2) (.slice Ao45 t524.length co45)) (fun _ hk => hk.2) (.slice Ao50 t527.length co50)) (fun _ h_ => h_.1))) hb); replace HO529 := Aside0.mk (Kd.R_below (rT (Kd.R_mono (Kd.R_far (p := ⟨gb531, 1, none⟩) (Kd.R_far (p := ⟨gb531, 0, none⟩) (Kd.R_types HO529.out BK531.out (by decide)) (fun _ hk => hk.2) (.slice Ao45 t524.length co45)) (fun _ hk => hk.2) (.slice Ao50 t527.length co50)) (fun _ h_ => h_.1))) hb); replace BK495 := kG BK495 hb; replace BK513 := kG BK513 hb; replace BK520 := kG BK520 hb; replace BK531 := Aside0.mk (blk_below (g := gb531) (o := .cells #[.slice Ao45 t524.length co45, .slice Ao50 t527.length co50] 40 (0, 0)) (by (with_reducible repeat (first | refine blk_drewN ?_ _ | refine blk_drew ?_ | refine blk_alloc ?_ _)); refine blk_put (cs := #[.slice Ao45 t524.length co45, .slice none 0 0]) ?_ 1 _ rfl; (with_reducible repeat (first | refine blk_drewN ?_ _ | refine blk_drew ?_ | refine blk_alloc ?_ _)); refine blk_put (cs := #[.slice none 0 0, .slice none 0 0]) ?_ 0 _ rfl; (with_reducible repeat (first | refine blk_drewN ?_ _ | refine blk_drew ?_ | refine blk_alloc ?_ _)); exact BK531.out) hb); replace HB := bS HB hb; (try clear hb); (try clear hb2); (try clear hk); (try clear hi)))
     go_meet
     case rel => exact ⟨_, (true), eS, H', ⟨by first | omega | exact Nat.le_refl _⟩, ⟨by (with_reducible repeat (first | apply Kd.R_alloc | apply Kd.R_drewN | apply Kd.R_drew)); exact Kd.R_mono HO523.out (fun _ hk => ⟨hk.1.1.1.1.1.2, ⟨hk.1.1.1.1.2, ⟨hk.1.1.1.2, ⟨hk.1.1.2, ⟨hk.1.2, hk.2⟩⟩⟩⟩⟩)⟩, ⟨by (with_reducible repeat (first | apply Kd.R_alloc | apply Kd.R_drewN | apply Kd.R_drew)); exact Kd.R_mono HO508.out (fun _ hk => ⟨hk.1.1.2, ⟨hk.1.1.1.1.1.1.1.1, ⟨hk.1.1.1.1.2, ⟨hk.1.1.1.2, ⟨hk.1.2, hk.2⟩⟩⟩⟩⟩)⟩, ⟨by (with_reducible repeat (first | apply Kd.R_alloc | apply Kd.R_drewN | apply Kd.R_drew)); exact Kd.R_mono HO511.out (fun _ hk => ⟨hk.1.1.2, ⟨hk.1.1.1.1.1.1.1.1, ⟨hk.1.1.1.1.2, ⟨hk.1.1.1.2, ⟨hk.1.2, hk.2⟩⟩⟩⟩⟩)⟩, ⟨by (with_reducible repeat (first | apply Kd.R_alloc | apply Kd.R_drewN | apply Kd.R_drew)); exact Kd.R_mono HO516.out (fun _ hk => ⟨hk.1.1.2, ⟨hk.1.1.1.1.2, ⟨hk.1.1.1.2, ⟨hk.1.1.1.1.1.1.1.1, ⟨hk.1.2, hk.2⟩⟩⟩⟩⟩)⟩, ⟨by (with_reducible repeat (first | apply Kd.R_alloc | apply Kd.R_drewN | apply Kd.R_drew)); exact Kd.R_mono HO519.out (fun _ hk => ⟨hk.1.1.2, ⟨hk.1.1.1.1.2, ⟨hk.1.1.1.2, ⟨hk.1.1.1.1.1.1.1.1, ⟨hk.1.2, hk.2⟩⟩⟩⟩⟩)⟩, ⟨by (with_reducible repeat (first | apply Kd.R_alloc | apply Kd.R_drewN | apply Kd.R_drew)); exact Kd.R_mono HO526.out (fun _ hk => ⟨hk.2, ⟨hk.1.1.1.1.2, ⟨hk.1.1.1.2, ⟨hk.1.1.2, ⟨hk.1.2, hk.1.1.1.1.1.1.1.1⟩⟩⟩⟩⟩)⟩, ⟨by (with_reducible repeat (first | apply Kd.R_alloc | apply Kd.R_drewN | apply Kd.R_drew)); exact Kd.R_mono HO529.out (fun _ hk => ⟨hk.2, ⟨hk.1.1.1.1.2, ⟨hk.1.1.1.2, ⟨hk.1.1.2, ⟨hk.1.2, hk.1.1.1.1.1.1.1.1⟩⟩⟩⟩⟩)⟩, ⟨kP BK495⟩, ⟨kP BK513⟩, ⟨kP BK520⟩, ⟨kP BK531⟩, ⟨bP HB⟩⟩
   case rest =>
    clear HC16
    try clear c1
    try clear c2
    try clear p2
    try clear c3
    try clear c3b0
    try clear c3b1
    try clear c4
    try clear c5
    try clear c6
    try clear c6b0
    try clear c9
    try clear c19
    try clear c21
    try clear c23
    try clear c24
    try clear c25
    try clear c29
    try clear c36
    try clear c37
    try clear c46
    try clear c47
    try clear c48
    try clear c52
    try clear c53
    try clear c54
    try clear c55
    try clear c57
    try clear c58
    try clear c61
    try clear c62
    try clear c63
    try clear c65
    try clear c66
    try clear hcz18_0
    try clear hcz18_1
    try clear hcz20_0
    try clear hcz20_1
    try clear hcz30_0
    try clear hcz30_1
    try clear hcz32_0
    try clear hcz32_1
    try clear hcz38_0
    try clear hcz38_1
    try clear hcz41_0
    try clear hcz41_1
    try clear hcz49_0
    try clear hcz49_1
    try clear hcz56_0
    try clear hcz56_1
    try clear hcz59_0
    try clear hcz59_1
    try clear hcz64_0
    try clear hcz64_1
    try clear hcz67_0
    try clear hcz67_1
    try clear hcz8_0
    try clear hcz8_1
    try clear hfz18_0
    try clear hfz18_1
    try clear hfz20_0
    try clear hfz20_1
    try clear hfz30_0
    try clear hfz30_1
    try clear hfz32_0
    try clear hfz32_1
    try clear hfz38_0
    try clear hfz38_1
    try clear hfz41_0
    try clear hfz41_1
    try clear hfz49_0
    try clear hfz49_1
    try clear hfz56_0
    try clear hfz56_1
    try clear hfz59_0
    try clear hfz59_1
    try clear hfz64_0
    try clear hfz64_1
    try clear hfz67_0
    try clear hfz67_1
    try clear hfz8_0
    try clear hfz8_1
    obtain ⟨kq, x51_15, rfl, HA, HJ15, HO_9, HO_514000, HO_514001, HO_521000, HO_521001, HO_532000, HO_532001, BK495, BK513, BK520, BK531, HB⟩ := hcut
    cases kq with
    | zero => exact absurd HA.out (by simp [laws_FnExactMapRename.j0])
    | succ kj15 =>
     have H := HA.out
     clear HA
     simp only [laws_FnExactMapRename.j0] at H
     by_cases c69 : x51_15 = true
     ·subst c69
      rw [if_pos rfl] at H
      exact absurd ((Option.some.inj H).trans hr_.out) (by decide)
     ·replace c69 := Bool.eq_false_iff.mpr c69
      subst c69
      rw [if_neg (show ¬ (false = true) by decide)] at H
      replace H := Option.bind_eq_some_iff.mp H
      obtain ⟨⟨t533, t536⟩, A700, H⟩ := H
      try dsimp only at H
      have A70 := Aside0.mk A700
      clear A700
      replace H := Option.bind_eq_some_iff.mp H
      obtain ⟨t539, A710, H⟩ := H
      try dsimp only at H
      have A71 := Aside0.mk A710
      clear A710
      by_cases c72 : t539 = true
      ·subst c72
       rw [if_pos rfl] at H
       replace H := Option.bind_eq_some_iff.mp H
       obtain ⟨t540, A730, H⟩ := H
       try dsimp only at H
       have A73 := Aside0.mk A730
       clear A730
       replace H := Option.bind_eq_some_iff.mp H
       obtain ⟨t543, A740, H⟩ := H
       try dsimp only at H
       have A74 := Aside0.mk A740
       clear A740
       by_cases c75 : t543 = true
       ·subst c75
        rw [if_pos rfl] at H
        replace H := Option.bind_eq_some_iff.mp H
        obtain ⟨⟨t544, t545, t546⟩, A760, H⟩ := H
        try dsimp only at H
        have A76 := Aside0.mk A760
        clear A760
        replace H := Option.bind_eq_some_iff.mp H
        obtain ⟨⟨t547, t548⟩, A770, H⟩ := H
        try dsimp only at H
        have A77 := Aside0.mk A770
        clear A770
        have HC78 := Aside0.mk H
        clear H
        try go_wp2
        have n0_ := Aside0.mk (Kd.R_drew HO_9.out)
        have n1_ := Aside0.mk (Kd.R_drew HO_514000.out)
        have n2_ := Aside0.mk (Kd.R_drew HO_514001.out)
        have n3_ := Aside0.mk (Kd.R_drew HO_521000.out)
        have n4_ := Aside0.mk (Kd.R_drew HO_521001.out)
        have n5_ := Aside0.mk (Kd.R_drew HO_532000.out)
        have n6_ := Aside0.mk (Kd.R_drew HO_532001.out)
        have n7_ := Aside0.mk (blk_drew BK495.out)
        have n8_ := Aside0.mk (blk_drew BK513.out)
        have n9_ := Aside0.mk (blk_drew BK520.out)
        have n10_ := Aside0.mk (blk_drew BK531.out)
        have n11_ := Aside0.mk (below_drew1 HB.out)
        clear HO_9
        clear HO_514000
        clear HO_514001
        clear HO_521000
        clear HO_521001
        clear HO_532000
        clear HO_532001
        clear BK495
        clear BK513
        clear BK520
        clear BK531
        clear HB
        have HO_9 := n0_
        have HO_514000 := n1_
        have HO_514001 := n2_
        have HO_521000 := n3_
        have HO_521001 := n4_
        have HO_532000 := n5_
        have HO_532001 := n6_
        have BK495 := n7_
        have BK513 := n8_
        have BK520 := n9_
        have BK531 := n10_
        have HB := n11_
        clear n0_ n1_ n2_ n3_ n4_ n5_ n6_ n7_ n8_ n9_ n10_ n11_
        refine start_ (n := 5) (S := fun w' => w'.cell? ⟨gb520, 0, none⟩ = some (.slice Ao35 t514.length co35) ∧ w'.cell? ⟨gb520, 1, none⟩ = some (.slice Ao39 t517.length co39) ∧ w'.cell? ⟨gb495, 0, none⟩ = some (.slice A0_0 l0_0.length c0_0) ∧ w'.cell? ⟨gb495, 1, none⟩ = some (.slice A0_1 l0_1.length c0_1)) (ds := []) #[false, false, false, false, false] (by kernel_rfl) rfl rfl ⟨(blk_cell BK520.out 0).trans rfl, (blk_cell BK520.out 1).trans rfl, (blk_cell BK495.out 0).trans rfl, (blk_cell BK495.out 1).trans rfl⟩ (fun hHeld => ?_)
        generalize wc.drew = w79 at HO_9 HO_514000 HO_514001 HO_521000 HO_521001 HO_532000 HO_532001 BK495 BK513 BK520 BK531 HB hHeld ⊢
        refine take_ (i := 0) (N := some 52) (v := ?_) (a' := ?_) #[true, false, false, false, false] rfl rfl (by kernel_rfl) (fun _ _ _ h => h) (Or.inl ⟨by rfl, ?_⟩) hHeld ?_ ?_
        rotate_left
        ·rintro w' ⟨s0, s1, s2, s3⟩
         go_simp
         with_reducible rfl
        rotate_left
        ·simp only [Act.put, List.setIfInBounds_toArray, List.set_cons_zero, List.set_cons_succ, i64_w, i32_w]
         rfl
        refine take_ (i := 1) (N := some 53) (v := ?_) (a' := ?_) #[true, true, false, false, false] rfl rfl (by kernel_rfl) (fun _ _ _ h => h) (Or.inl ⟨by rfl, ?_⟩) hHeld ?_ ?_
        rotate_left
        ·rintro w' ⟨s0, s1, s2, s3⟩
         go_simp
         with_reducible rfl
        rotate_left
        ·simp only [Act.put, List.setIfInBounds_toArray, List.set_cons_zero, List.set_cons_succ, i64_w, i32_w]
         rfl
        refine one_ (i := 2) (N := some 54) #[true, true, true, false, false] rfl rfl (by kernel_rfl) (by decide) (fun K hK => ?_)
        refine goes_ Try.func21 (by kernel_rfl) rfl #[.agg #[.slice A0_0 l0_0.length c0_0, .slice A0_1 l0_1.length c0_1]] (by rfl) rfl rfl (by (try simp only [List.map_toArray, List.map_cons, List.map_nil]); first | done | rfl | (simp only [List.length_drop, List.length_take]; rfl)) ?_
        with_reducible refine (laws_toMap.calls kj15 _ _ l0_0 _ _ l0_1 t533 t536 _ ?side1 ?side2 ?side3 ?side4 A70.out).mono ?_
        (case side1 => exact cB HR0_0 HB)
        (case side2 => exact HC0_0.out)
        (case side3 => exact cB HR0_1 HB)
        (case side4 => exact HC0_1.out)
        rintro e w80 ⟨v534, v537, rfl, ho0, ho1, hb⟩
        refine ⟨_, rfl, ?_⟩
        have n0_ := Aside0.mk (Kd.R_mono (Kd.R_told (Kd.R_told (Kd.R_old (rP HO_9) hb) (Kd.R_base ho0)) (Kd.R_base ho1)) (fun _ h_ => h_.1))
        have n1_ := Aside0.mk (Kd.R_mono (Kd.R_told (Kd.R_told (Kd.R_old (rP HO_514000) hb) (Kd.R_base ho0)) (Kd.R_base ho1)) (fun _ h_ => h_.1))
        have n2_ := Aside0.mk (Kd.R_mono (Kd.R_told (Kd.R_told (Kd.R_old (rP HO_514001) hb) (Kd.R_base ho0)) (Kd.R_base ho1)) (fun _ h_ => h_.1))
        have n3_ := Aside0.mk (Kd.R_mono (Kd.R_told (Kd.R_told (Kd.R_old (rP HO_521000) hb) (Kd.R_base ho0)) (Kd.R_base ho1)) (fun _ h_ => h_.1))
        have n4_ := Aside0.mk (Kd.R_mono (Kd.R_told (Kd.R_told (Kd.R_old (rP HO_521001) hb) (Kd.R_base ho0)) (Kd.R_base ho1)) (fun _ h_ => h_.1))
        have n5_ := Aside0.mk (Kd.R_mono (Kd.R_told (Kd.R_told (Kd.R_old (rP HO_532000) hb) (Kd.R_base ho0)) (Kd.R_base ho1)) (fun _ h_ => h_.1))
        have n6_ := Aside0.mk (Kd.R_mono (Kd.R_told (Kd.R_told (Kd.R_old (rP HO_532001) hb) (Kd.R_base ho0)) (Kd.R_base ho1)) (fun _ h_ => h_.1))
        have n7_ := Aside0.mk (Kd.R_lower (Kd.R_new' (Kd.R_new' (Kd.R_new' (Kd.R_new' (Kd.R_new' (Kd.R_new' (Kd.R_new' ho0 (Kd.R_lt (rP HO_9))) (Kd.R_lt (rP HO_514000))) (Kd.R_lt (rP HO_514001))) (Kd.R_lt (rP HO_521000))) (Kd.R_lt (rP HO_521001))) (Kd.R_lt (rP HO_532000))) (Kd.R_lt (rP HO_532001))) (below_size (bP HB)))
        have n8_ := Aside0.mk (Kd.R_lower (Kd.R_new' (Kd.R_new' (Kd.R_new' (Kd.R_new' (Kd.R_new' (Kd.R_new' (Kd.R_new' ho1 (Kd.R_lt (rP HO_9))) (Kd.R_lt (rP HO_514000))) (Kd.R_lt (rP HO_514001))) (Kd.R_lt (rP HO_521000))) (Kd.R_lt (rP HO_521001))) (Kd.R_lt (rP HO_532000))) (Kd.R_lt (rP HO_532001))) (below_size (bP HB)))
        have n9_ := kB BK495 hb
        have n10_ := kB BK513 hb
        have n11_ := kB BK520 hb
        have n12_ := kB BK531 hb
        have n13_ := bS HB hb
        clear HO_9
        clear HO_514000
        clear HO_514001
        clear HO_521000
        clear HO_521001
        clear HO_532000
        clear HO_532001
        clear BK495
        clear BK513
        clear BK520
        clear BK531
        clear HB
        have HO_9 := n0_
        have HO_514000 := n1_
        have HO_514001 := n2_
        have HO_521000 := n3_
        have HO_521001 := n4_
        have HO_532000 := n5_
        have HO_532001 := n6_
        have HO535 := n7_
        have HO538 := n8_
        have BK495 := n9_
        have BK513 := n10_
        have BK520 := n11_
        have BK531 := n12_
        have HB := n13_
        clear n0_ n1_ n2_ n3_ n4_ n5_ n6_ n7_ n8_ n9_ n10_ n11_ n12_ n13_
        (try clear hb)
        (try clear hb2)
        (try clear hk)
        (try clear hi)
        (try clear ho0)
        (try clear ho1)
        obtain ⟨Ao81, co81, eo81⟩ := Kd.R_slice HO535.out
        (first | subst eo81 | (injection eo81 with f1_ f2_ f3_; have f4_ := f1_.symm; have f5_ := f3_.symm; clear f1_ f2_ f3_; subst f4_; subst f5_))
        obtain ⟨Ao82, co82, eo82⟩ := Kd.R_slice HO538.out
        (first | subst eo82 | (injection eo82 with f1_ f2_ f3_; have f4_ := f1_.symm; have f5_ := f3_.symm; clear f1_ f2_ f3_; subst f4_; subst f5_))
        refine hK.out _ _ ⟨(blk_cell BK520.out 0).trans rfl, (blk_cell BK520.out 1).trans rfl, (blk_cell BK495.out 0).trans rfl, (blk_cell BK495.out 1).trans rfl⟩ (fun hHeld => ?_)
        clear hK K
        refine norm_ (a' := ?_) ?_ ?_
        rotate_left
        ·show Act.put _ (some 54) _ = _
         simp only [Act.put, List.setIfInBounds_toArray, List.set_cons_zero, List.set_cons_succ, i64_w, i32_w]
         rfl
        refine one_ (i := 3) (N := some 55) #[true, true, true, true, false] rfl rfl (by kernel_rfl) (by decide) (fun K hK => ?_)
        refine goes_ Try.func23 (by kernel_rfl) rfl #[.agg #[.slice Ao35 t514.length co35, .slice Ao39 t517.length co39], .agg #[.slice Ao81 t533.length co81, .slice Ao82 t536.length co82]] (by rfl) rfl rfl (by (try simp only [List.map_toArray, List.map_cons, List.map_nil]); first | done | rfl | (simp only [List.length_drop, List.length_take]; rfl)) ?_
        with_reducible refine (laws_eqMap.calls kj15 _ _ t514 _ _ t517 _ _ t533 _ _ t536 true _ ?side1 ?side2 ?side3 ?side4 ?side5 ?side6 ?side7 ?side8 A71.out).mono ?_
        (case side1 => exact cP (Kd.R_reads' HO_521000.out).2.2)
        (case side2 => exact (Kd.R_reads' HO_521000.out).2.1)
        (case side3 => exact cP (Kd.R_reads' HO_521001.out).2.2)
        (case side4 => exact (Kd.R_reads' HO_521001.out).2.1)
        (case side5 => exact cP (Kd.R_reads' HO535.out).2.2)
        (case side6 => exact (Kd.R_reads' HO535.out).2.1)
        (case side7 => exact cP (Kd.R_reads' HO538.out).2.2)
        (case side8 => exact (Kd.R_reads' HO538.out).2.1)
        rintro e w83 ⟨rfl, hb⟩
        refine ⟨_, rfl, ?_⟩
        have n0_ := rB HO_9 hb
        have n1_ := rB HO_514000 hb
        have n2_ := rB HO_514001 hb
        have n3_ := rB HO_521000 hb
        have n4_ := rB HO_521001 hb
        have n5_ := rB HO_532000 hb
        have n6_ := rB HO_532001 hb
        have n7_ := rB HO535 hb
        have n8_ := rB HO538 hb
        have n9_ := kB BK495 hb
        have n10_ := kB BK513 hb
        have n11_ := kB BK520 hb
        have n12_ := kB BK531 hb
        have n13_ := bS HB hb
        clear HO_9
        clear HO_514000
        clear HO_514001
        clear HO_521000
        clear HO_521001
        clear HO_532000
        clear HO_532001
        clear HO535
        clear HO538
        clear BK495
        clear BK513
        clear BK520
        clear BK531
        clear HB
        have HO_9 := n0_
        have HO_514000 := n1_
        have HO_514001 := n2_
        have HO_521000 := n3_
        have HO_521001 := n4_
        have HO_532000 := n5_
        have HO_532001 := n6_
        have HO535 := n7_
        have HO538 := n8_
        have BK495 := n9_
        have BK513 := n10_
        have BK520 := n11_
        have BK531 := n12_
        have HB := n13_
        clear n0_ n1_ n2_ n3_ n4_ n5_ n6_ n7_ n8_ n9_ n10_ n11_ n12_ n13_
        (try clear hb)
        (try clear hb2)
        (try clear hk)
        (try clear hi)
        refine hK.out _ _ ⟨(blk_cell BK520.out 0).trans rfl, (blk_cell BK520.out 1).trans rfl, (blk_cell BK495.out 0).trans rfl, (blk_cell BK495.out 1).trans rfl⟩ (fun hHeld => ?_)
        clear hK K
        refine norm_ (a' := ?_) ?_ ?_
        rotate_left
        ·show Act.put _ (some 55) _ = _
         simp only [Act.put, List.setIfInBounds_toArray, List.set_cons_zero, List.set_cons_succ, i64_w, i32_w]
         rfl
        refine pure_ (i := 4) (N := some 56) (v := ?_) (a' := ?_) #[true, true, true, true, true] rfl rfl (by kernel_rfl) (fun _ _ _ h => h) (Or.inl ⟨by rfl, ?_⟩) ?_ ?_
        rotate_left
        ·intro w'
         go_simp
         with_reducible rfl
        rotate_left
        ·simp only [Act.put, List.setIfInBounds_toArray, List.set_cons_zero, List.set_cons_succ, i64_w, i32_w]
         rfl
        refine done_ (by kernel_rfl) ?_
        go_upto_region 20 with (first | ((with_reducible refine gate_callee (f := 9) rfl ?_); refine gL (some 59) Try.func9 #[.slice A1 l1.length c1] ?_; (with_reducible refine (laws_toIntS.calls kj15 _ _ l1 t540 _ ?side1 ?side2 A73.out).mono ?_); (case side1 => exact cB HR1 HB); (case side2 => exact HC1.out); rintro e w84 ⟨v541, rfl, ho0, hb⟩; refine ⟨_, rfl, ?_⟩; have HO542 := Aside0.mk (Kd.R_lower (Kd.R_new' (Kd.R_new' (Kd.R_new' (Kd.R_new' (Kd.R_new' (Kd.R_new' (Kd.R_new' (Kd.R_new' (Kd.R_new' ho0 (Kd.R_lt (rP HO_9))) (Kd.R_lt (rP HO_514000))) (Kd.R_lt (rP HO_514001))) (Kd.R_lt (rP HO_521000))) (Kd.R_lt (rP HO_521001))) (Kd.R_lt (rP HO_532000))) (Kd.R_lt (rP HO_532001))) (Kd.R_lt (rP HO535))) (Kd.R_lt (rP HO538))) (below_size (bP HB))); replace HO_9 := Aside0.mk (Kd.R_elder' (rP HO_9) (Kd.R_base ho0) hb); replace HO_514000 := Aside0.mk (Kd.R_elder' (rP HO_514000) (Kd.R_base ho0) hb); replace HO_514001 := Aside0.mk (Kd.R_elder' (rP HO_514001) (Kd.R_base ho0) hb); replace HO_521000 := Aside0.mk (Kd.R_elder' (rP HO_521000) (Kd.R_base ho0) hb); replace HO_521001 := Aside0.mk (Kd.R_elder' (rP HO_521001) (Kd.R_base ho0) hb); replace HO_532000 := Aside0.mk (Kd.R_elder' (rP HO_532000) (Kd.R_base ho0) hb); replace HO_532001 := Aside0.mk (Kd.R_elder' (rP HO_532001) (Kd.R_base ho0) hb); replace HO535 := Aside0.mk (Kd.R_elder' (rP HO535) (Kd.R_base ho0) hb); replace HO538 := Aside0.mk (Kd.R_elder' (rP HO538) (Kd.R_base ho0) hb); replace BK495 := kB BK495 hb; replace BK513 := kB BK513 hb; replace BK520 := kB BK520 hb; replace BK531 := kB BK531 hb; replace HB := bS HB hb; (try clear hb); (try clear hb2); (try clear hk); (try clear hi); (try clear ho0); obtain ⟨Ao85, co85, eo85⟩ := Kd.R_slice HO542.out; subst eo85) | ((with_reducible refine gate_callee (f := 12) rfl ?_); refine gL (some 60) Try.func12 #[.slice Ao42 t521.length co42, .slice Ao85 t540.length co85] ?_; (with_reducible refine (laws_eqIntS.calls kj15 _ _ t521 _ _ t540 true _ ?side1 ?side2 ?side3 ?side4 A74.out).mono ?_); (case side1 => exact cP (Kd.R_reads' HO_9.out).2.2); (case side2 => exact (Kd.R_reads' HO_9.out).2.1); (case side3 => exact cP (Kd.R_reads' HO542.out).2.2); (case side4 => exact (Kd.R_reads' HO542.out).2.1); rintro e w' ⟨rfl, ⟨nd, rfl⟩⟩; refine ⟨_, rfl, ?_⟩; have hnb86 := NB520_495.out; have hnc86 := NB495_520.out; have hnb87 := NB520_513.out; have hnc87 := NB513_520.out; have hnb88 := NB520_531.out; have hnc88 := NB531_520.out; have hcz89_0 := zc0 BK520; have hcz89_1 := zc1 BK520; have hfz89_0 := blk_frozen BK520.out 0; have hfz89_1 := blk_frozen BK520.out 1) | ((with_reducible refine gate_callee (f := 26) rfl ?_); refine gL (some 64) Try.func26 #[.agg #[.slice Ao35 t514.length co35, .slice Ao39 t517.length co39], .int .i64 1] ?_; (with_reducible refine (laws_markMap.calls kj15 (fun k_ => some k_ = (.slice Ao35 t514.length co35 : Value).ownBlock) (.slice Ao35 t514.length co35) t514 (fun k_ => some k_ = (.slice Ao39 t517.length co39 : Value).ownBlock) (.slice Ao39 t517.length co39) t517 1 t544 t545 t546 w _ ?side1 ?side2 ?side3 ?side4 ?side5 A76.out).mono ?_); (case side1 => exact bP HB); (case side2 => exact Kd.R_tight rfl HO_521000.out); (case side3 => exact fun k_ e_ => (HO_521000.out.1 k_ e_.symm).1.1.1.2.2.2.1); (case side4 => exact Kd.R_tight rfl HO_521001.out); (case side5 => exact fun k_ e_ => (HO_521001.out.1 k_ e_.symm).1.1.1.2.2.2.1); rintro e w90 ⟨rfl, hy0, hy1, hb, hkp⟩; refine ⟨_, rfl, ?_⟩; replace HO_9 := Aside0.mk (Kd.R_mono (ok' := fun k_ => some k_ ≠ (.slice Ao28 t506.length co28 : Value).ownBlock ∧ some k_ ≠ (.slice Ao31 t509.length co31 : Value).ownBlock ∧ some k_ ≠ (.slice Ao35 t514.length co35 : Value).ownBlock ∧ some k_ ≠ (.slice Ao39 t517.length co39 : Value).ownBlock ∧ some k_ ≠ (.slice Ao45 t524.length co45 : Value).ownBlock ∧ some k_ ≠ (.slice Ao50 t527.length co50 : Value).ownBlock ∧ some k_ ≠ (.slice Ao81 t533.length co81 : Value).ownBlock ∧ some k_ ≠ (.slice Ao82 t536.length co82 : Value).ownBlock ∧ some k_ ≠ (.slice Ao85 t540.length co85 : Value).ownBlock) (Kd.R_keptB (HO_9.out) hkp (fun k_ hk_ hs_ => Or.elim hs_ (fun e_ => (hk_.1.1.1.2.2.1) e_) (fun e_ => (hk_.1.1.1.2.2.2.1) e_))) (fun k_ hk_ => ⟨hk_.1.1.1.1.1, hk_.1.1.1.1.2.1, hk_.1.1.1.1.2.2.1, hk_.1.1.1.1.2.2.2.1, hk_.1.1.1.1.2.2.2.2.1, hk_.1.1.1.1.2.2.2.2.2, hk_.1.1.1.2, hk_.1.1.2, hk_.1.2⟩)); replace HO_514000 := Aside0.mk (Kd.R_mono (ok' := fun k_ => some k_ ≠ (.slice Ao42 t521.length co42 : Value).ownBlock ∧ some k_ ≠ (.slice Ao31 t509.length co31 : Value).ownBlock ∧ some k_ ≠ (.slice Ao35 t514.length co35 : Value).ownBlock ∧ some k_ ≠ (.slice Ao39 t517.length co39 : Value).ownBlock ∧ some k_ ≠ (.slice Ao45 t524.length co45 : Value).ownBlock ∧ some k_ ≠ (.slice Ao50 t527.length co50 : Value).ownBlock ∧ some k_ ≠ (.slice Ao81 t533.length co81 : Value).ownBlock ∧ some k_ ≠ (.slice Ao82 t536.length co82 : Value).ownBlock ∧ some k_ ≠ (.slice Ao85 t540.length co85 : Value).ownBlock) (Kd.R_keptB (HO_514000.out) hkp (fun k_ hk_ hs_ => Or.elim hs_ (fun e_ => (hk_.1.1.1.2.2.1) e_) (fun e_ => (hk_.1.1.1.2.2.2.1) e_))) (fun k_ hk_ => ⟨hk_.1.1.1.1.1, hk_.1.1.1.1.2.1, hk_.1.1.1.1.2.2.1, hk_.1.1.1.1.2.2.2.1, hk_.1.1.1.1.2.2.2.2.1, hk_.1.1.1.1.2.2.2.2.2, hk_.1.1.1.2, hk_.1.1.2, hk_.1.2⟩)); replace HO_514001 := Aside0.mk (Kd.R_mono (ok' := fun k_ => some k_ ≠ (.slice Ao42 t521.length co42 : Value).ownBlock ∧ some k_ ≠ (.slice Ao28 t506.length co28 : Value).ownBlock ∧ some k_ ≠ (.slice Ao35 t514.length co35 : Value).ownBlock ∧ some k_ ≠ (.slice Ao39 t517.length co39 : Value).ownBlock ∧ some k_ ≠ (.slice Ao45 t524.length co45 : Value).ownBlock ∧ some k_ ≠ (.slice Ao50 t527.length co50 : Value).ownBlock ∧ some k_ ≠ (.slice Ao81 t533.length co81 : Value).ownBlock ∧ some k_ ≠ (.slice Ao82 t536.length co82 : Value).ownBlock ∧ some k_ ≠ (.slice Ao85 t540.length co85 : Value).ownBlock) (Kd.R_keptB (HO_514001.out) hkp (fun k_ hk_ hs_ => Or.elim hs_ (fun e_ => (hk_.1.1.1.2.2.1) e_) (fun e_ => (hk_.1.1.1.2.2.2.1) e_))) (fun k_ hk_ => ⟨hk_.1.1.1.1.1, hk_.1.1.1.1.2.1, hk_.1.1.1.1.2.2.1, hk_.1.1.1.1.2.2.2.1, hk_.1.1.1.1.2.2.2.2.1, hk_.1.1.1.1.2.2.2.2.2, hk_.1.1.1.2, hk_.1.1.2, hk_.1.2⟩)); replace HO_532000 := Aside0.mk (Kd.R_mono (ok' := fun k_ => some k_ ≠ (.slice Ao42 t521.length co42 : Value).ownBlock ∧ some k_ ≠ (.slice Ao28 t506.length co28 : Value).ownBlock ∧ some k_ ≠ (.slice Ao31 t509.length co31 : Value).ownBlock ∧ some k_ ≠ (.slice Ao35 t514.length co35 : Value).ownBlock ∧ some k_ ≠ (.slice Ao39 t517.length co39 : Value).ownBlock ∧ some k_ ≠ (.slice Ao50 t527.length co50 : Value).ownBlock ∧ some k_ ≠ (.slice Ao81 t533.length co81 : Value).ownBlock ∧ some k_ ≠ (.slice Ao82 t536.length co82 : Value).ownBlock ∧ some k_ ≠ (.slice Ao85 t540.length co85 : Value).ownBlock) (Kd.R_keptB (HO_532000.out) hkp (fun k_ hk_ hs_ => Or.elim hs_ (fun e_ => (hk_.1.1.1.2.2.2.1) e_) (fun e_ => (hk_.1.1.1.2.2.2.2.1) e_))) (fun k_ hk_ => ⟨hk_.1.1.1.1.1, hk_.1.1.1.1.2.1, hk_.1.1.1.1.2.2.1, hk_.1.1.1.1.2.2.2.1, hk_.1.1.1.1.2.2.2.2.1, hk_.1.1.1.1.2.2.2.2.2, hk_.1.1.1.2, hk_.1.1.2, hk_.1.2⟩)); replace HO_532001 := Aside0.mk (Kd.R_mono (ok' := fun k_ => some k_ ≠ (.slice Ao42 t521.length co42 : Value).ownBlock ∧ some k_ ≠ (.slice Ao28 t506.length co28 : Value).ownBlock ∧ some k_ ≠ (.slice Ao31 t509.length co31 : Value).ownBlock ∧ some k_ ≠ (.slice Ao35 t514.length co35 : Value).ownBlock ∧ some k_ ≠ (.slice Ao39 t517.length co39 : Value).ownBlock ∧ some k_ ≠ (.slice Ao45 t524.length co45 : Value).ownBlock ∧ some k_ ≠ (.slice Ao81 t533.length co81 : Value).ownBlock ∧ some k_ ≠ (.slice Ao82 t536.length co82 : Value).ownBlock ∧ some k_ ≠ (.slice Ao85 t540.length co85 : Value).ownBlock) (Kd.R_keptB (HO_532001.out) hkp (fun k_ hk_ hs_ => Or.elim hs_ (fun e_ => (hk_.1.1.1.2.2.2.1) e_) (fun e_ => (hk_.1.1.1.2.2.2.2.1) e_))) (fun k_ hk_ => ⟨hk_.1.1.1.1.1, hk_.1.1.1.1.2.1, hk_.1.1.1.1.2.2.1, hk_.1.1.1.1.2.2.2.1, hk_.1.1.1.1.2.2.2.2.1, hk_.1.1.1.1.2.2.2.2.2, hk_.1.1.1.2, hk_.1.1.2, hk_.1.2⟩)); replace BK495 := Aside0.mk (blk_kept (kP BK495) hkp (fun hs_ => Or.elim hs_ (fun e_ => (fun e_ => (Kd.R_ne HO_521000.out BK495.out (by decide)) e_) e_) (fun e_ => (fun e_ => (Kd.R_ne HO_521001.out BK495.out (by decide)) e_) e_))); replace BK513 := Aside0.mk (blk_kept (kP BK513) hkp (fun hs_ => Or.elim hs_ (fun e_ => (fun e_ => (Kd.R_ne HO_521000.out BK513.out (by decide)) e_) e_) (fun e_ => (fun e_ => (Kd.R_ne HO_521001.out BK513.out (by decide)) e_) e_))); replace BK520 := Aside0.mk (blk_kept (kP BK520) hkp (fun hs_ => Or.elim hs_ (fun e_ => (fun e_ => (Kd.R_ne HO_521000.out BK520.out (by decide)) e_) e_) (fun e_ => (fun e_ => (Kd.R_ne HO_521001.out BK520.out (by decide)) e_) e_))); replace BK531 := Aside0.mk (blk_kept (kP BK531) hkp (fun hs_ => Or.elim hs_ (fun e_ => (fun e_ => (Kd.R_ne HO_521000.out BK531.out (by decide)) e_) e_) (fun e_ => (fun e_ => (Kd.R_ne HO_521001.out BK531.out (by decide)) e_) e_))); replace HO_521000 := Aside0.mk (Kd.R_reok rfl hy0 (fun k_ e_ => HO_521000.out.1 k_ e_)); replace HO_521001 := Aside0.mk (Kd.R_reok rfl hy1 (fun k_ e_ => HO_521001.out.1 k_ e_)); replace HO535 := Aside0.mk (Kd.R_mono (ok' := fun k_ => some k_ ≠ (.slice Ao42 t521.length co42 : Value).ownBlock ∧ some k_ ≠ (.slice Ao28 t506.length co28 : Value).ownBlock ∧ some k_ ≠ (.slice Ao31 t509.length co31 : Value).ownBlock ∧ some k_ ≠ (.slice Ao35 t514.length co35 : Value).ownBlock ∧ some k_ ≠ (.slice Ao39 t517.length co39 : Value).ownBlock ∧ some k_ ≠ (.slice Ao45 t524.length co45 : Value).ownBlock ∧ some k_ ≠ (.slice Ao50 t527.length co50 : Value).ownBlock ∧ some k_ ≠ (.slice Ao82 t536.length co82 : Value).ownBlock ∧ some k_ ≠ (.slice Ao85 t540.length co85 : Value).ownBlock) (Kd.R_keptB (HO535.out) hkp (fun k_ hk_ hs_ => Or.elim hs_ (fun e_ => (hk_.1.1.1.1.2) e_) (fun e_ => (hk_.1.1.1.2) e_))) (fun k_ hk_ => ⟨hk_.1.1.1.1.1.1.1.1.2, hk_.1.1.1.1.1.1.1.2, hk_.1.1.1.1.1.1.2, hk_.1.1.1.1.1.2, hk_.1.1.1.1.2, hk_.1.1.1.2, hk_.1.1.2, hk_.1.1.1.1.1.1.1.1.1, hk_.1.2⟩)); replace HO538 := Aside0.mk (Kd.R_mono (ok' := fun k_ => some k_ ≠ (.slice Ao42 t521.length co42 : Value).ownBlock ∧ some k_ ≠ (.slice Ao28 t506.length co28 : Value).ownBlock ∧ some k_ ≠ (.slice Ao31 t509.length co31 : Value).ownBlock ∧ some k_ ≠ (.slice Ao35 t514.length co35 : Value).ownBlock ∧ some k_ ≠ (.slice Ao39 t517.length co39 : Value).ownBlock ∧ some k_ ≠ (.slice Ao45 t524.length co45 : Value).ownBlock ∧ some k_ ≠ (.slice Ao50 t527.length co50 : Value).ownBlock ∧ some k_ ≠ (.slice Ao81 t533.length co81 : Value).ownBlock ∧ some k_ ≠ (.slice Ao85 t540.length co85 : Value).ownBlock) (Kd.R_keptB (HO538.out) hkp (fun k_ hk_ hs_ => Or.elim hs_ (fun e_ => (hk_.1.1.1.1.2) e_) (fun e_ => (hk_.1.1.1.2) e_))) (fun k_ hk_ => ⟨hk_.1.1.1.1.1.1.1.1.2, hk_.1.1.1.1.1.1.1.2, hk_.1.1.1.1.1.1.2, hk_.1.1.1.1.1.2, hk_.1.1.1.1.2, hk_.1.1.1.2, hk_.1.1.2, hk_.1.1.1.1.1.1.1.1.1, hk_.1.2⟩)); replace HO542 := Aside0.mk (Kd.R_mono (ok' := fun k_ => some k_ ≠ (.slice Ao42 t521.length co42 : Value).ownBlock ∧ some k_ ≠ (.slice Ao28 t506.length co28 : Value).ownBlock ∧ some k_ ≠ (.slice Ao31 t509.length co31 : Value).ownBlock ∧ some k_ ≠ (.slice Ao35 t514.length co35 : Value).ownBlock ∧ some k_ ≠ (.slice Ao39 t517.length co39 : Value).ownBlock ∧ some k_ ≠ (.slice Ao45 t524.length co45 : Value).ownBlock ∧ some k_ ≠ (.slice Ao50 t527.length co50 : Value).ownBlock ∧ some k_ ≠ (.slice Ao81 t533.length co81 : Value).ownBlock ∧ some k_ ≠ (.slice Ao82 t536.length co82 : Value).ownBlock) (Kd.R_keptB (HO542.out) hkp (fun k_ hk_ hs_ => Or.elim hs_ (fun e_ => (hk_.1.1.1.1.1.2) e_) (fun e_ => (hk_.1.1.1.1.2) e_))) (fun k_ hk_ => ⟨hk_.1.1.1.1.1.1.1.1.1.2, hk_.1.1.1.1.1.1.1.1.2, hk_.1.1.1.1.1.1.1.2, hk_.1.1.1.1.1.1.2, hk_.1.1.1.1.1.2, hk_.1.1.1.1.2, hk_.1.1.1.2, hk_.1.1.2, hk_.1.2⟩)); replace HB := Aside0.mk (hb); (try clear hb); (try clear hkp); (try clear hy0); (try clear hy1)) | ((with_reducible refine gate_callee (f := 13) rfl ?_); refine gL (some 67) Try.func13 #[.slice Ao42 t521.length co42, .int .i64 t544] ?_; (with_reducible refine (laws_markIntS.calls kj15 (fun k_ => some k_ = (.slice Ao42 t521.length co42 : Value).ownBlock) (.slice Ao42 t521.length co42) t521 t544 t547 t548 w _ ?side1 ?side2 A77.out).mono ?_); (case side1 => exact bP HB); (case side2 => exact Kd.R_tight rfl HO_9.out); rintro e w91 ⟨rfl, hy0, hb, hkp⟩; refine ⟨_, rfl, ?_⟩; replace HO_514000 := Aside0.mk (Kd.R_mono (ok' := fun k_ => some k_ ≠ (.slice Ao42 t521.length co42 : Value).ownBlock ∧ some k_ ≠ (.slice Ao31 t509.length co31 : Value).ownBlock ∧ some k_ ≠ (.slice Ao35 t514.length co35 : Value).ownBlock ∧ some k_ ≠ (.slice Ao39 t517.length co39 : Value).ownBlock ∧ some k_ ≠ (.slice Ao45 t524.length co45 : Value).ownBlock ∧ some k_ ≠ (.slice Ao50 t527.length co50 : Value).ownBlock ∧ some k_ ≠ (.slice Ao81 t533.length co81 : Value).ownBlock ∧ some k_ ≠ (.slice Ao82 t536.length co82 : Value).ownBlock ∧ some k_ ≠ (.slice Ao85 t540.length co85 : Value).ownBlock) (Kd.R_keptB (HO_514000.out) hkp (fun k_ hk_ hs_ => (hk_.1) hs_)) (fun k_ hk_ => ⟨hk_.1.1, hk_.1.2.1, hk_.1.2.2.1, hk_.1.2.2.2.1, hk_.1.2.2.2.2.1, hk_.1.2.2.2.2.2.1, hk_.1.2.2.2.2.2.2.1, hk_.1.2.2.2.2.2.2.2.1, hk_.1.2.2.2.2.2.2.2.2⟩)); replace HO_514001 := Aside0.mk (Kd.R_mono (ok' := fun k_ => some k_ ≠ (.slice Ao42 t521.length co42 : Value).ownBlock ∧ some k_ ≠ (.slice Ao28 t506.length co28 : Value).ownBlock ∧ some k_ ≠ (.slice Ao35 t514.length co35 : Value).ownBlock ∧ some k_ ≠ (.slice Ao39 t517.length co39 : Value).ownBlock ∧ some k_ ≠ (.slice Ao45 t524.length co45 : Value).ownBlock ∧ some k_ ≠ (.slice Ao50 t527.length co50 : Value).ownBlock ∧ some k_ ≠ (.slice Ao81 t533.length co81 : Value).ownBlock ∧ some k_ ≠ (.slice Ao82 t536.length co82 : Value).ownBlock ∧ some k_ ≠ (.slice Ao85 t540.length co85 : Value).ownBlock) (Kd.R_keptB (HO_514001.out) hkp (fun k_ hk_ hs_ => (hk_.1) hs_)) (fun k_ hk_ => ⟨hk_.1.1, hk_.1.2.1, hk_.1.2.2.1, hk_.1.2.2.2.1, hk_.1.2.2.2.2.1, hk_.1.2.2.2.2.2.1, hk_.1.2.2.2.2.2.2.1, hk_.1.2.2.2.2.2.2.2.1, hk_.1.2.2.2.2.2.2.2.2⟩)); replace HO_521000 := Aside0.mk (Kd.R_mono (ok' := fun k_ => some k_ ≠ (.slice Ao42 t521.length co42 : Value).ownBlock ∧ some k_ ≠ (.slice Ao28 t506.length co28 : Value).ownBlock ∧ some k_ ≠ (.slice Ao31 t509.length co31 : Value).ownBlock ∧ some k_ ≠ (.slice Ao39 t517.length co39 : Value).ownBlock ∧ some k_ ≠ (.slice Ao45 t524.length co45 : Value).ownBlock ∧ some k_ ≠ (.slice Ao50 t527.length co50 : Value).ownBlock ∧ some k_ ≠ (.slice Ao81 t533.length co81 : Value).ownBlock ∧ some k_ ≠ (.slice Ao82 t536.length co82 : Value).ownBlock ∧ some k_ ≠ (.slice Ao85 t540.length co85 : Value).ownBlock) (Kd.R_keptB (HO_521000.out) hkp (fun k_ hk_ hs_ => (hk_.1.1.1.1) hs_)) (fun k_ hk_ => ⟨hk_.1.1.1.1.1, hk_.1.1.1.1.2.1, hk_.1.1.1.1.2.2.1, hk_.1.1.1.1.2.2.2.1, hk_.1.1.1.1.2.2.2.2.1, hk_.1.1.1.1.2.2.2.2.2, hk_.1.1.1.2, hk_.1.1.2, hk_.1.2⟩)); replace HO_521001 := Aside0.mk (Kd.R_mono (ok' := fun k_ => some k_ ≠ (.slice Ao42 t521.length co42 : Value).ownBlock ∧ some k_ ≠ (.slice Ao28 t506.length co28 : Value).ownBlock ∧ some k_ ≠ (.slice Ao31 t509.length co31 : Value).ownBlock ∧ some k_ ≠ (.slice Ao35 t514.length co35 : Value).ownBlock ∧ some k_ ≠ (.slice Ao45 t524.length co45 : Value).ownBlock ∧ some k_ ≠ (.slice Ao50 t527.length co50 : Value).ownBlock ∧ some k_ ≠ (.slice Ao81 t533.length co81 : Value).ownBlock ∧ some k_ ≠ (.slice Ao82 t536.length co82 : Value).ownBlock ∧ some k_ ≠ (.slice Ao85 t540.length co85 : Value).ownBlock) (Kd.R_keptB (HO_521001.out) hkp (fun k_ hk_ hs_ => (hk_.1.1.1.1) hs_)) (fun k_ hk_ => ⟨hk_.1.1.1.1.1, hk_.1.1.1.1.2.1, hk_.1.1.1.1.2.2.1, hk_.1.1.1.1.2.2.2.1, hk_.1.1.1.1.2.2.2.2.1, hk_.1.1.1.1.2.2.2.2.2, hk_.1.1.1.2, hk_.1.1.2, hk_.1.2⟩)); replace HO_532000 := Aside0.mk (Kd.R_mono (ok' := fun k_ => some k_ ≠ (.slice Ao42 t521.length co42 : Value).ownBlock ∧ some k_ ≠ (.slice Ao28 t506.length co28 : Value).ownBlock ∧ some k_ ≠ (.slice Ao31 t509.length co31 : Value).ownBlock ∧ some k_ ≠ (.slice Ao35 t514.length co35 : Value).ownBlock ∧ some k_ ≠ (.slice Ao39 t517.length co39 : Value).ownBlock ∧ some k_ ≠ (.slice Ao50 t527.length co50 : Value).ownBlock ∧ some k_ ≠ (.slice Ao81 t533.length co81 : Value).ownBlock ∧ some k_ ≠ (.slice Ao82 t536.length co82 : Value).ownBlock ∧ some k_ ≠ (.slice Ao85 t540.length co85 : Value).ownBlock) (Kd.R_keptB (HO_532000.out) hkp (fun k_ hk_ hs_ => (hk_.1) hs_)) (fun k_ hk_ => ⟨hk_.1.1, hk_.1.2.1, hk_.1.2.2.1, hk_.1.2.2.2.1, hk_.1.2.2.2.2.1, hk_.1.2.2.2.2.2.1, hk_.1.2.2.2.2.2.2.1, hk_.1.2.2.2.2.2.2.2.1, hk_.1.2.2.2.2.2.2.2.2⟩)); replace HO_532001 := Aside0.mk (Kd.R_mono (ok' := fun k_ => some k_ ≠ (.slice Ao42 t521.length co42 : Value).ownBlock ∧ some k_ ≠ (.slice Ao28 t506.length co28 : Value).ownBlock ∧ some k_ ≠ (.slice Ao31 t509.length co31 : Value).ownBlock ∧ some k_ ≠ (.slice Ao35 t514.length co35 : Value).ownBlock ∧ some k_ ≠ (.slice Ao39 t517.length co39 : Value).ownBlock ∧ some k_ ≠ (.slice Ao45 t524.length co45 : Value).ownBlock ∧ some k_ ≠ (.slice Ao81 t533.length co81 : Value).ownBlock ∧ some k_ ≠ (.slice Ao82 t536.length co82 : Value).ownBlock ∧ some k_ ≠ (.slice Ao85 t540.length co85 : Value).ownBlock) (Kd.R_keptB (HO_532001.out) hkp (fun k_ hk_ hs_ => (hk_.1) hs_)) (fun k_ hk_ => ⟨hk_.1.1, hk_.1.2.1, hk_.1.2.2.1, hk_.1.2.2.2.1, hk_.1.2.2.2.2.1, hk_.1.2.2.2.2.2.1, hk_.1.2.2.2.2.2.2.1, hk_.1.2.2.2.2.2.2.2.1, hk_.1.2.2.2.2.2.2.2.2⟩)); replace BK495 := Aside0.mk (blk_kept (kP BK495) hkp (fun hs_ => (fun e_ => (Kd.R_ne HO_9.out BK495.out (by decide)) e_) hs_)); replace BK513 := Aside0.mk (blk_kept (kP BK513) hkp (fun hs_ => (fun e_ => (Kd.R_ne HO_9.out BK513.out (by decide)) e_) hs_)); replace BK520 := Aside0.mk (blk_kept (kP BK520) hkp (fun hs_ => (fun e_ => (Kd.R_ne HO_9.out BK520.out (by decide)) e_) hs_)); replace BK531 := Aside0.mk (blk_kept (kP BK531) hkp (fun hs_ => (fun e_ => (Kd.R_ne HO_9.out BK531.out (by decide)) e_) hs_)); replace HO_9 := Aside0.mk (Kd.R_reok rfl hy0 (fun k_ e_ => HO_9.out.1 k_ e_)); replace HO535 := Aside0.mk (Kd.R_mono (ok' := fun k_ => some k_ ≠ (.slice Ao42 t521.length co42 : Value).ownBlock ∧ some k_ ≠ (.slice Ao28 t506.length co28 : Value).ownBlock ∧ some k_ ≠ (.slice Ao31 t509.length co31 : Value).ownBlock ∧ some k_ ≠ (.slice Ao35 t514.length co35 : Value).ownBlock ∧ some k_ ≠ (.slice Ao39 t517.length co39 : Value).ownBlock ∧ some k_ ≠ (.slice Ao45 t524.length co45 : Value).ownBlock ∧ some k_ ≠ (.slice Ao50 t527.length co50 : Value).ownBlock ∧ some k_ ≠ (.slice Ao82 t536.length co82 : Value).ownBlock ∧ some k_ ≠ (.slice Ao85 t540.length co85 : Value).ownBlock) (Kd.R_keptB (HO535.out) hkp (fun k_ hk_ hs_ => (hk_.1) hs_)) (fun k_ hk_ => ⟨hk_.1.1, hk_.1.2.1, hk_.1.2.2.1, hk_.1.2.2.2.1, hk_.1.2.2.2.2.1, hk_.1.2.2.2.2.2.1, hk_.1.2.2.2.2.2.2.1, hk_.1.2.2.2.2.2.2.2.1, hk_.1.2.2.2.2.2.2.2.2⟩)); replace HO538 := Aside0.mk (Kd.R_mono (ok' := fun k_ => some k_ ≠ (.slice Ao42 t521.length co42 : Value).ownBlock ∧ some k_ ≠ (.slice Ao28 t506.length co28 : Value).ownBlock ∧ some k_ ≠ (.slice Ao31 t509.length co31 : Value).ownBlock ∧ some k_ ≠ (.slice Ao35 t514.length co35 : Value).ownBlock ∧ some k_ ≠ (.slice Ao39 t517.length co39 : Value).ownBlock ∧ some k_ ≠ (.slice Ao45 t524.length co45 : Value).ownBlock ∧ some k_ ≠ (.slice Ao50 t527.length co50 : Value).ownBlock ∧ some k_ ≠ (.slice Ao81 t533.length co81 : Value).ownBlock ∧ some k_ ≠ (.slice Ao85 t540.length co85 : Value).ownBlock) (Kd.R_keptB (HO538.out) hkp (fun k_ hk_ hs_ => (hk_.1) hs_)) (fun k_ hk_ => ⟨hk_.1.1, hk_.1.2.1, hk_.1.2.2.1, hk_.1.2.2.2.1, hk_.1.2.2.2.2.1, hk_.1.2.2.2.2.2.1, hk_.1.2.2.2.2.2.2.1, hk_.1.2.2.2.2.2.2.2.1, hk_.1.2.2.2.2.2.2.2.2⟩)); replace HO542 := Aside0.mk (Kd.R_mono (ok' := fun k_ => some k_ ≠ (.slice Ao42 t521.length co42 : Value).ownBlock ∧ some k_ ≠ (.slice Ao28 t506.length co28 : Value).ownBlock ∧ some k_ ≠ (.slice Ao31 t509.length co31 : Value).ownBlock ∧ some k_ ≠ (.slice Ao35 t514.length co35 : Value).ownBlock ∧ some k_ ≠ (.slice Ao39 t517.length co39 : Value).ownBlock ∧ some k_ ≠ (.slice Ao45 t524.length co45 : Value).ownBlock ∧ some k_ ≠ (.slice Ao50 t527.length co50 : Value).ownBlock ∧ some k_ ≠ (.slice Ao81 t533.length co81 : Value).ownBlock ∧ some k_ ≠ (.slice Ao82 t536.length co82 : Value).ownBlock) (Kd.R_keptB (HO542.out) hkp (fun k_ hk_ hs_ => (hk_.1) hs_)) (fun k_ hk_ => ⟨hk_.1.1, hk_.1.2.1, hk_.1.2.2.1, hk_.1.2.2.2.1, hk_.1.2.2.2.2.1, hk_.1.2.2.2.2.2.1, hk_.1.2.2.2.2.2.2.1, hk_.1.2.2.2.2.2.2.2.1, hk_.1.2.2.2.2.2.2.2.2⟩)); replace HB := Aside0.mk (hb); (try clear hb); (try clear hkp); (try clear hy0)))
        (try simp only [Act.put, List.setIfInBounds_toArray, List.set_cons_zero, List.set_cons_succ])
        go_cut [80] (fun v80 wc => ∃ (kq : Nat) (x80_77 : Bool), v80 = .bool x80_77 ∧ Aside0 (laws_FnExactMapRename.j1 kq l1 t512 x80_77 l0_0 l0_1 t506 t509 t524 t527 = some r) ∧ Aside0 (kq ≤ kj15) ∧ Aside0 (Kd.R (Kd.int .i64) 3 wc w.heap.size (fun k_ => some k_ ≠ ((.slice Ao31 t509.length co31) : Value).ownBlock ∧ some k_ ≠ ((.slice Ao35 t514.length co35) : Value).ownBlock ∧ some k_ ≠ ((.slice Ao39 t517.length co39) : Value).ownBlock ∧ some k_ ≠ ((.slice Ao45 t524.length co45) : Value).ownBlock ∧ some k_ ≠ ((.slice Ao50 t527.length co50) : Value).ownBlock) (.slice Ao28 t506.length co28) t506) ∧ Aside0 (Kd.R (Kd.int .i64) 3 wc w.heap.size (fun k_ => some k_ ≠ ((.slice Ao28 t506.length co28) : Value).ownBlock ∧ some k_ ≠ ((.slice Ao35 t514.length co35) : Value).ownBlock ∧ some k_ ≠ ((.slice Ao39 t517.length co39) : Value).ownBlock ∧ some k_ ≠ ((.slice Ao45 t524.length co45) : Value).ownBlock ∧ some k_ ≠ ((.slice Ao50 t527.length co50) : Value).ownBlock) (.slice Ao31 t509.length co31) t509) ∧ Aside0 (Kd.R (Kd.int .i64) 3 wc w.heap.size (fun k_ => some k_ ≠ ((.slice Ao28 t506.length co28) : Value).ownBlock ∧ some k_ ≠ ((.slice Ao31 t509.length co31) : Value).ownBlock ∧ some k_ ≠ ((.slice Ao39 t517.length co39) : Value).ownBlock ∧ some k_ ≠ ((.slice Ao45 t524.length co45) : Value).ownBlock ∧ some k_ ≠ ((.slice Ao50 t527.length co50) : Value).ownBlock) (.slice Ao35 t514.length co35) t545) ∧ Aside0 (Kd.R (Kd.int .i64) 3 wc w.heap.size (fun k_ => some k_ ≠ ((.slice Ao28 t506.length co28) : Value).ownBlock ∧ some k_ ≠ ((.slice Ao31 t509.length co31) : Value).ownBlock ∧ some k_ ≠ ((.slice Ao35 t514.length co35) : Value).ownBlock ∧ some k_ ≠ ((.slice Ao45 t524.length co45) : Value).ownBlock ∧ some k_ ≠ ((.slice Ao50 t527.length co50) : Value).ownBlock) (.slice Ao39 t517.length co39) t546) ∧ Aside0 (Kd.R (Kd.int .i64) 3 wc w.heap.size (fun k_ => some k_ ≠ ((.slice Ao28 t506.length co28) : Value).ownBlock ∧ some k_ ≠ ((.slice Ao31 t509.length co31) : Value).ownBlock ∧ some k_ ≠ ((.slice Ao35 t514.length co35) : Value).ownBlock ∧ some k_ ≠ ((.slice Ao39 t517.length co39) : Value).ownBlock ∧ some k_ ≠ ((.slice Ao50 t527.length co50) : Value).ownBlock) (.slice Ao45 t524.length co45) t524) ∧ Aside0 (Kd.R (Kd.int .i64) 3 wc w.heap.size (fun k_ => some k_ ≠ ((.slice Ao28 t506.length co28) : Value).ownBlock ∧ some k_ ≠ ((.slice Ao31 t509.length co31) : Value).ownBlock ∧ some k_ ≠ ((.slice Ao35 t514.length co35) : Value).ownBlock ∧ some k_ ≠ ((.slice Ao39 t517.length co39) : Value).ownBlock ∧ some k_ ≠ ((.slice Ao45 t524.length co45) : Value).ownBlock) (.slice Ao50 t527.length co50) t527) ∧ Aside0 (wc.heap[gb495]? = some (.cells #[(.slice A0_0 l0_0.length c0_0), (.slice A0_1 l0_1.length c0_1)] 37 (0, 0))) ∧ Aside0 (wc.heap[gb513]? = some (.cells #[(.slice Ao28 t506.length co28), (.slice Ao31 t509.length co31)] 40 (0, 0))) ∧ Aside0 (wc.heap[gb520]? = some (.cells #[(.slice Ao35 t514.length co35), (.slice Ao39 t517.length co39)] 40 (0, 0))) ∧ Aside0 (wc.heap[gb531]? = some (.cells #[(.slice Ao45 t524.length co45), (.slice Ao50 t527.length co50)] 40 (0, 0))) ∧ Aside0 (Below w.heap.size w wc))
        case first =>
         have H := HC78.out
         clear HC78
         by_cases c92 : t547 < 0
         ·rw [if_pos c92] at H
          have c92b0 : decide (t547 < 0) = true := decide_eq_true c92
          clear c92
          (first | rw [c92b0] | (simp only [i64_w, i32_w]; rw [c92b0]) | skip)
          have H' := Aside0.mk H
          clear H
          go_wp2
          go_meet
          case rel => exact ⟨_, (true), eS, H', ⟨by have := HJ15.out; first | omega | exact Nat.le_refl _⟩, ⟨by (with_reducible repeat (first | apply Kd.R_alloc | apply Kd.R_drewN | apply Kd.R_drew)); exact Kd.R_mono HO_514000.out (fun _ hk => ⟨hk.2.1, ⟨hk.2.2.1, ⟨hk.2.2.2.1, ⟨hk.2.2.2.2.1, hk.2.2.2.2.2.1⟩⟩⟩⟩)⟩, ⟨by (with_reducible repeat (first | apply Kd.R_alloc | apply Kd.R_drewN | apply Kd.R_drew)); exact Kd.R_mono HO_514001.out (fun _ hk => ⟨hk.2.1, ⟨hk.2.2.1, ⟨hk.2.2.2.1, ⟨hk.2.2.2.2.1, hk.2.2.2.2.2.1⟩⟩⟩⟩)⟩, ⟨by (with_reducible repeat (first | apply Kd.R_alloc | apply Kd.R_drewN | apply Kd.R_drew)); exact Kd.R_mono HO_521000.out (fun _ hk => ⟨hk.2.1, ⟨hk.2.2.1, ⟨hk.2.2.2.1, ⟨hk.2.2.2.2.1, hk.2.2.2.2.2.1⟩⟩⟩⟩)⟩, ⟨by (with_reducible repeat (first | apply Kd.R_alloc | apply Kd.R_drewN | apply Kd.R_drew)); exact Kd.R_mono HO_521001.out (fun _ hk => ⟨hk.2.1, ⟨hk.2.2.1, ⟨hk.2.2.2.1, ⟨hk.2.2.2.2.1, hk.2.2.2.2.2.1⟩⟩⟩⟩)⟩, ⟨by (with_reducible repeat (first | apply Kd.R_alloc | apply Kd.R_drewN | apply Kd.R_drew)); exact Kd.R_mono HO_532000.out (fun _ hk => ⟨hk.2.1, ⟨hk.2.2.1, ⟨hk.2.2.2.1, ⟨hk.2.2.2.2.1, hk.2.2.2.2.2.1⟩⟩⟩⟩)⟩, ⟨by (with_reducible repeat (first | apply Kd.R_alloc | apply Kd.R_drewN | apply Kd.R_drew)); exact Kd.R_mono HO_532001.out (fun _ hk => ⟨hk.2.1, ⟨hk.2.2.1, ⟨hk.2.2.2.1, ⟨hk.2.2.2.2.1, hk.2.2.2.2.2.1⟩⟩⟩⟩)⟩, ⟨kP BK495⟩, ⟨kP BK513⟩, ⟨kP BK520⟩, ⟨kP BK531⟩, ⟨bP HB⟩⟩
         ·rw [if_neg c92] at H
          have c92b0 : decide (t547 < 0) = false := decide_eq_false c92
          clear c92
          (first | rw [c92b0] | (simp only [i64_w, i32_w]; rw [c92b0]) | skip)
          replace H := Option.bind_eq_some_iff.mp H
          obtain ⟨t549, A930, H⟩ := H
          try dsimp only at H
          have A93 := Aside0.mk A930
          clear A930
          by_cases c94 : t549 = true
          ·subst c94
           rw [if_pos rfl] at H
           have H' := Aside0.mk H
           clear H
           have hnb95 := NB531_495.out
           have hnc95 := NB495_531.out
           have hnb96 := NB531_513.out
           have hnc96 := NB513_531.out
           have hnb97 := NB531_520.out
           have hnc97 := NB520_531.out
           have hcz98_0 := zc0 BK531
           have hcz98_1 := zc1 BK531
           have hfz98_0 := blk_frozen BK531.out 0
           have hfz98_1 := blk_frozen BK531.out 1
           have hnb99 := NB513_495.out
           have hnc99 := NB495_513.out
           have hnb100 := NB513_520.out
           have hnc100 := NB520_513.out
           have hcz101_0 := zc0 BK513
           have hcz101_1 := zc1 BK513
           have hfz101_0 := blk_frozen BK513.out 0
           have hfz101_1 := blk_frozen BK513.out 1
           go_wp2_with (first | (go_at_call 23; (with_reducible refine (laws_eqMap.calls kj15 _ _ t524 _ _ t527 _ _ t506 _ _ t509 true _ ?side1 ?side2 ?side3 ?side4 ?side5 ?side6 ?side7 ?side8 A93.out).mono ?_); (case side1 => exact cP (Kd.R_reads' HO_532000.out).2.2); (case side2 => exact (Kd.R_reads' HO_532000.out).2.1); (case side3 => exact cP (Kd.R_reads' HO_532001.out).2.2); (case side4 => exact (Kd.R_reads' HO_532001.out).2.1); (case side5 => exact cP (Kd.R_reads' HO_514000.out).2.2); (case side6 => exact (Kd.R_reads' HO_514000.out).2.1); (case side7 => exact cP (Kd.R_reads' HO_514001.out).2.2); (case side8 => exact (Kd.R_reads' HO_514001.out).2.1); rintro e w102 ⟨rfl, hb⟩; replace HO_9 := rB HO_9 hb; replace HO_514000 := rB HO_514000 hb; replace HO_514001 := rB HO_514001 hb; replace HO_521000 := rB HO_521000 hb; replace HO_521001 := rB HO_521001 hb; replace HO_532000 := rB HO_532000 hb; replace HO_532001 := rB HO_532001 hb; replace HO535 := rB HO535 hb; replace HO538 := rB HO538 hb; replace HO542 := rB HO542 hb; replace BK495 := kB BK495 hb; replace BK513 := kB BK513 hb; replace BK520 := kB BK520 hb; replace BK531 := kB BK531 hb; replace HB := bS HB hb; (try clear hb); (try clear hb2); (try clear hk); (try clear hi)))
           go_meet
           case rel => exact ⟨_, ((t530 != t512)), eS, H', ⟨by have := HJ15.out; first | omega | exact Nat.le_refl _⟩, ⟨by (with_reducible repeat (first | apply Kd.R_alloc | apply Kd.R_drewN | apply Kd.R_drew)); exact Kd.R_mono HO_514000.out (fun _ hk => ⟨hk.2.1, ⟨hk.2.2.1, ⟨hk.2.2.2.1, ⟨hk.2.2.2.2.1, hk.2.2.2.2.2.1⟩⟩⟩⟩)⟩, ⟨by (with_reducible repeat (first | apply Kd.R_alloc | apply Kd.R_drewN | apply Kd.R_drew)); exact Kd.R_mono HO_514001.out (fun _ hk => ⟨hk.2.1, ⟨hk.2.2.1, ⟨hk.2.2.2.1, ⟨hk.2.2.2.2.1, hk.2.2.2.2.2.1⟩⟩⟩⟩)⟩, ⟨by (with_reducible repeat (first | apply Kd.R_alloc | apply Kd.R_drewN | apply Kd.R_drew)); exact Kd.R_mono HO_521000.out (fun _ hk => ⟨hk.2.1, ⟨hk.2.2.1, ⟨hk.2.2.2.1, ⟨hk.2.2.2.2.1, hk.2.2.2.2.2.1⟩⟩⟩⟩)⟩, ⟨by (with_reducible repeat (first | apply Kd.R_alloc | apply Kd.R_drewN | apply Kd.R_drew)); exact Kd.R_mono HO_521001.out (fun _ hk => ⟨hk.2.1, ⟨hk.2.2.1, ⟨hk.2.2.2.1, ⟨hk.2.2.2.2.1, hk.2.2.2.2.2.1⟩⟩⟩⟩)⟩, ⟨by (with_reducible repeat (first | apply Kd.R_alloc | apply Kd.R_drewN | apply Kd.R_drew)); exact Kd.R_mono HO_532000.out (fun _ hk => ⟨hk.2.1, ⟨hk.2.2.1, ⟨hk.2.2.2.1, ⟨hk.2.2.2.2.1, hk.2.2.2.2.2.1⟩⟩⟩⟩)⟩, ⟨by (with_reducible repeat (first | apply Kd.R_alloc | apply Kd.R_drewN | apply Kd.R_drew)); exact Kd.R_mono HO_532001.out (fun _ hk => ⟨hk.2.1, ⟨hk.2.2.1, ⟨hk.2.2.2.1, ⟨hk.2.2.2.2.1, hk.2.2.2.2.2.1⟩⟩⟩⟩)⟩, ⟨kP BK495⟩, ⟨kP BK513⟩, ⟨kP BK520⟩, ⟨kP BK531⟩, ⟨bP HB⟩⟩
          ·replace c94 := Bool.eq_false_iff.mpr c94
           subst c94
           rw [if_neg (show ¬ (false = true) by decide)] at H
           have H' := Aside0.mk H
           clear H
           have hnb103 := NB531_495.out
           have hnc103 := NB495_531.out
           have hnb104 := NB531_513.out
           have hnc104 := NB513_531.out
           have hnb105 := NB531_520.out
           have hnc105 := NB520_531.out
           have hcz106_0 := zc0 BK531
           have hcz106_1 := zc1 BK531
           have hfz106_0 := blk_frozen BK531.out 0
           have hfz106_1 := blk_frozen BK531.out 1
           have hnb107 := NB513_495.out
           have hnc107 := NB495_513.out
           have hnb108 := NB513_520.out
           have hnc108 := NB520_513.out
           have hcz109_0 := zc0 BK513
           have hcz109_1 := zc1 BK513
           have hfz109_0 := blk_frozen BK513.out 0
           have hfz109_1 := blk_frozen BK513.out 1
           go_wp2_with (first | (go_at_call 23; (with_reducible refine (laws_eqMap.calls kj15 _ _ t524 _ _ t527 _ _ t506 _ _ t509 false _ ?side1 ?side2 ?side3 ?side4 ?side5 ?side6 ?side7 ?side8 A93.out).mono ?_); (case side1 => exact cP (Kd.R_reads' HO_532000.out).2.2); (case side2 => exact (Kd.R_reads' HO_532000.out).2.1); (case side3 => exact cP (Kd.R_reads' HO_532001.out).2.2); (case side4 => exact (Kd.R_reads' HO_532001.out).2.1); (case side5 => exact cP (Kd.R_reads' HO_514000.out).2.2); (case side6 => exact (Kd.R_reads' HO_514000.out).2.1); (case side7 => exact cP (Kd.R_reads' HO_514001.out).2.2); (case side8 => exact (Kd.R_reads' HO_514001.out).2.1); rintro e w110 ⟨rfl, hb⟩; replace HO_9 := rB HO_9 hb; replace HO_514000 := rB HO_514000 hb; replace HO_514001 := rB HO_514001 hb; replace HO_521000 := rB HO_521000 hb; replace HO_521001 := rB HO_521001 hb; replace HO_532000 := rB HO_532000 hb; replace HO_532001 := rB HO_532001 hb; replace HO535 := rB HO535 hb; replace HO538 := rB HO538 hb; replace HO542 := rB HO542 hb; replace BK495 := kB BK495 hb; replace BK513 := kB BK513 hb; replace BK520 := kB BK520 hb; replace BK531 := kB BK531 hb; replace HB := bS HB hb; (try clear hb); (try clear hb2); (try clear hk); (try clear hi)))
           go_meet
           case rel => exact ⟨_, (true), eS, H', ⟨by have := HJ15.out; first | omega | exact Nat.le_refl _⟩, ⟨by (with_reducible repeat (first | apply Kd.R_alloc | apply Kd.R_drewN | apply Kd.R_drew)); exact Kd.R_mono HO_514000.out (fun _ hk => ⟨hk.2.1, ⟨hk.2.2.1, ⟨hk.2.2.2.1, ⟨hk.2.2.2.2.1, hk.2.2.2.2.2.1⟩⟩⟩⟩)⟩, ⟨by (with_reducible repeat (first | apply Kd.R_alloc | apply Kd.R_drewN | apply Kd.R_drew)); exact Kd.R_mono HO_514001.out (fun _ hk => ⟨hk.2.1, ⟨hk.2.2.1, ⟨hk.2.2.2.1, ⟨hk.2.2.2.2.1, hk.2.2.2.2.2.1⟩⟩⟩⟩)⟩, ⟨by (with_reducible repeat (first | apply Kd.R_alloc | apply Kd.R_drewN | apply Kd.R_drew)); exact Kd.R_mono HO_521000.out (fun _ hk => ⟨hk.2.1, ⟨hk.2.2.1, ⟨hk.2.2.2.1, ⟨hk.2.2.2.2.1, hk.2.2.2.2.2.1⟩⟩⟩⟩)⟩, ⟨by (with_reducible repeat (first | apply Kd.R_alloc | apply Kd.R_drewN | apply Kd.R_drew)); exact Kd.R_mono HO_521001.out (fun _ hk => ⟨hk.2.1, ⟨hk.2.2.1, ⟨hk.2.2.2.1, ⟨hk.2.2.2.2.1, hk.2.2.2.2.2.1⟩⟩⟩⟩)⟩, ⟨by (with_reducible repeat (first | apply Kd.R_alloc | apply Kd.R_drewN | apply Kd.R_drew)); exact Kd.R_mono HO_532000.out (fun _ hk => ⟨hk.2.1, ⟨hk.2.2.1, ⟨hk.2.2.2.1, ⟨hk.2.2.2.2.1, hk.2.2.2.2.2.1⟩⟩⟩⟩)⟩, ⟨by (with_reducible repeat (first | apply Kd.R_alloc | apply Kd.R_drewN | apply Kd.R_drew)); exact Kd.R_mono HO_532001.out (fun _ hk => ⟨hk.2.1, ⟨hk.2.2.1, ⟨hk.2.2.2.1, ⟨hk.2.2.2.2.1, hk.2.2.2.2.2.1⟩⟩⟩⟩)⟩, ⟨kP BK495⟩, ⟨kP BK513⟩, ⟨kP BK520⟩, ⟨kP BK531⟩, ⟨bP HB⟩⟩
        case rest =>
         clear HC78
         try clear c1
         try clear c2
         try clear p2
         try clear c3
         try clear c3b0
         try clear c3b1
         try clear c4
         try clear c5
         try clear c6
         try clear c6b0
         try clear c7
         try clear c8
         try clear c9
         try clear c10
         try clear c12
         try clear c13
         try clear c19
         try clear c21
         try clear c23
         try clear c24
         try clear c25
         try clear c26
         try clear c29
         try clear c36
         try clear c37
         try clear c46
         try clear c47
         try clear c48
         try clear c52
         try clear c53
         try clear c54
         try clear c55
         try clear c57
         try clear c58
         try clear c61
         try clear c62
         try clear c63
         try clear c65
         try clear c66
         try clear c69
         try clear c72
         try clear c75
         try clear c86
         try clear c87
         try clear c88
         try clear c92
         try clear c92b0
         try clear c94
         try clear c95
         try clear c96
         try clear c97
         try clear c99
         try clear c100
         try clear c103
         try clear c104
         try clear c105
         try clear c107
         try clear c108
         try clear hcz101_0
         try clear hcz101_1
         try clear hcz106_0
         try clear hcz106_1
         try clear hcz109_0
         try clear hcz109_1
         try clear hcz18_0
         try clear hcz18_1
         try clear hcz20_0
         try clear hcz20_1
         try clear hcz30_0
         try clear hcz30_1
         try clear hcz32_0
         try clear hcz32_1
         try clear hcz38_0
         try clear hcz38_1
         try clear hcz41_0
         try clear hcz41_1
         try clear hcz49_0
         try clear hcz49_1
         try clear hcz56_0
         try clear hcz56_1
         try clear hcz59_0
         try clear hcz59_1
         try clear hcz64_0
         try clear hcz64_1
         try clear hcz67_0
         try clear hcz67_1
         try clear hcz89_0
         try clear hcz89_1
         try clear hcz8_0
         try clear hcz8_1
         try clear hcz98_0
         try clear hcz98_1
         try clear hfz101_0
         try clear hfz101_1
         try clear hfz106_0
         try clear hfz106_1
         try clear hfz109_0
         try clear hfz109_1
         try clear hfz18_0
         try clear hfz18_1
         try clear hfz20_0
         try clear hfz20_1
         try clear hfz30_0
         try clear hfz30_1
         try clear hfz32_0
         try clear hfz32_1
         try clear hfz38_0
         try clear hfz38_1
         try clear hfz41_0
         try clear hfz41_1
         try clear hfz49_0
         try clear hfz49_1
         try clear hfz56_0
         try clear hfz56_1
         try clear hfz59_0
         try clear hfz59_1
         try clear hfz64_0
         try clear hfz64_1
         try clear hfz67_0
         try clear hfz67_1
         try clear hfz89_0
         try clear hfz89_1
         try clear hfz8_0
         try clear hfz8_1
         try clear hfz98_0
         try clear hfz98_1
         try clear p2
         obtain ⟨kq, x80_77, rfl, HA, HJ77, HO_514000, HO_514001, HO_521000, HO_521001, HO_532000, HO_532001, BK495, BK513, BK520, BK531, HB⟩ := hcut
         have hl521000_77 := (Kd.R_reads' HO_521000.out).1
         rw [hl521000_77] at HO_521000
         (try simp only [hl521000_77])
         (try simp only [hl521000_77] at BK495)
         (try simp only [hl521000_77] at BK513)
         (try simp only [hl521000_77] at BK520)
         (try simp only [hl521000_77] at BK531)
         (try simp only [hl521000_77] at HO_514000)
         (try simp only [hl521000_77] at HO_514001)
         (try simp only [hl521000_77] at HO_521001)
         (try simp only [hl521000_77] at HO_532000)
         (try simp only [hl521000_77] at HO_532001)
         have hl521001_77 := (Kd.R_reads' HO_521001.out).1
         rw [hl521001_77] at HO_521001
         (try simp only [hl521001_77])
         (try simp only [hl521001_77] at BK495)
         (try simp only [hl521001_77] at BK513)
         (try simp only [hl521001_77] at BK520)
         (try simp only [hl521001_77] at BK531)
         (try simp only [hl521001_77] at HO_514000)
         (try simp only [hl521001_77] at HO_514001)
         (try simp only [hl521001_77] at HO_521000)
         (try simp only [hl521001_77] at HO_532000)
         (try simp only [hl521001_77] at HO_532001)
         cases kq with
         | zero => exact absurd HA.out (by simp [laws_FnExactMapRename.j1])
         | succ kj77 =>
          have H := HA.out
          clear HA
          simp only [laws_FnExactMapRename.j1] at H
          by_cases c111 : x80_77 = true
          ·subst c111
           rw [if_pos rfl] at H
           exact absurd ((Option.some.inj H).trans hr_.out) (by decide)
          ·replace c111 := Bool.eq_false_iff.mpr c111
           subst c111
           rw [if_neg (show ¬ (false = true) by decide)] at H
           replace H := Option.bind_eq_some_iff.mp H
           obtain ⟨⟨t550, t551, t552⟩, A1120, H⟩ := H
           try dsimp only at H
           have A112 := Aside0.mk A1120
           clear A1120
           replace H := Option.bind_eq_some_iff.mp H
           obtain ⟨t553, A1130, H⟩ := H
           try dsimp only at H
           have A113 := Aside0.mk A1130
           clear A1130
           by_cases c114 : t553 < 0
           ·rw [if_pos c114] at H
            have c114b0 : decide (t553 < 0) = true := decide_eq_true c114
            clear c114
            exact absurd ((Option.some.inj H).trans hr_.out) (by decide)
           ·rw [if_neg c114] at H
            have c114b0 : decide (t553 < 0) = false := decide_eq_false c114
            clear c114
            by_cases c115 : t553 = t550
            ·rw [if_pos c115] at H
             have c115b0 : (t553 == t550) = true := beq_iff_eq.mpr c115
             have c115b1 : (t553 != t550) = false := bne_eq_false_iff_eq.mpr c115
             clear c115
             replace H := Option.bind_eq_some_iff.mp H
             obtain ⟨⟨t554, t557⟩, A1160, H⟩ := H
             try dsimp only at H
             have A116 := Aside0.mk A1160
             clear A1160
             replace H := Option.bind_eq_some_iff.mp H
             obtain ⟨t560, A1170, H⟩ := H
             try dsimp only at H
             have A117 := Aside0.mk A1170
             clear A1170
             replace H := Option.bind_eq_some_iff.mp H
             obtain ⟨⟨t563, t566, t569⟩, A1180, H⟩ := H
             try dsimp only at H
             have A118 := Aside0.mk A1180
             clear A1180
             have HC119 := Aside0.mk H
             clear H
             have hnb120 := NB531_495.out
             have hnc120 := NB495_531.out
             have hnb121 := NB531_513.out
             have hnc121 := NB513_531.out
             have hnb122 := NB531_520.out
             have hnc122 := NB520_531.out
             have hcz123_0 := zc0 BK531
             have hcz123_1 := zc1 BK531
             have hfz123_0 := blk_frozen BK531.out 0
             have hfz123_1 := blk_frozen BK531.out 1
             go_upto_region 31 with (first | ((with_reducible refine gate_callee (f := 26) rfl ?_); refine gL (some 83) Try.func26 #[.agg #[.slice Ao45 t524.length co45, .slice Ao50 t527.length co50], .int .i64 1] ?_; (with_reducible refine (laws_markMap.calls kj77 (fun k_ => some k_ = (.slice Ao45 t524.length co45 : Value).ownBlock) (.slice Ao45 t524.length co45) t524 (fun k_ => some k_ = (.slice Ao50 t527.length co50 : Value).ownBlock) (.slice Ao50 t527.length co50) t527 1 t550 t551 t552 w _ ?side1 ?side2 ?side3 ?side4 ?side5 A112.out).mono ?_); (case side1 => exact bP HB); (case side2 => exact Kd.R_tight rfl HO_532000.out); (case side3 => exact fun k_ e_ => (HO_532000.out.1 k_ e_.symm).2.2.2.2); (case side4 => exact Kd.R_tight rfl HO_532001.out); (case side5 => exact fun k_ e_ => (HO_532001.out.1 k_ e_.symm).2.2.2.2); rintro e w124 ⟨rfl, hy0, hy1, hb, hkp⟩; refine ⟨_, rfl, ?_⟩; replace HO_514000 := Aside0.mk (Kd.R_mono (ok' := fun k_ => some k_ ≠ (.slice Ao31 t509.length co31 : Value).ownBlock ∧ some k_ ≠ (.slice Ao35 t545.length co35 : Value).ownBlock ∧ some k_ ≠ (.slice Ao39 t546.length co39 : Value).ownBlock ∧ some k_ ≠ (.slice Ao45 t524.length co45 : Value).ownBlock ∧ some k_ ≠ (.slice Ao50 t527.length co50 : Value).ownBlock) (Kd.R_keptB (HO_514000.out) hkp (fun k_ hk_ hs_ => Or.elim hs_ (fun e_ => (hk_.2.2.2.1) e_) (fun e_ => (hk_.2.2.2.2) e_))) (fun k_ hk_ => ⟨hk_.1.1, hk_.1.2.1, hk_.1.2.2.1, hk_.1.2.2.2.1, hk_.1.2.2.2.2⟩)); replace HO_514001 := Aside0.mk (Kd.R_mono (ok' := fun k_ => some k_ ≠ (.slice Ao28 t506.length co28 : Value).ownBlock ∧ some k_ ≠ (.slice Ao35 t545.length co35 : Value).ownBlock ∧ some k_ ≠ (.slice Ao39 t546.length co39 : Value).ownBlock ∧ some k_ ≠ (.slice Ao45 t524.length co45 : Value).ownBlock ∧ some k_ ≠ (.slice Ao50 t527.length co50 : Value).ownBlock) (Kd.R_keptB (HO_514001.out) hkp (fun k_ hk_ hs_ => Or.elim hs_ (fun e_ => (hk_.2.2.2.1) e_) (fun e_ => (hk_.2.2.2.2) e_))) (fun k_ hk_ => ⟨hk_.1.1, hk_.1.2.1, hk_.1.2.2.1, hk_.1.2.2.2.1, hk_.1.2.2.2.2⟩)); replace HO_521000 := Aside0.mk (Kd.R_mono (ok' := fun k_ => some k_ ≠ (.slice Ao28 t506.length co28 : Value).ownBlock ∧ some k_ ≠ (.slice Ao31 t509.length co31 : Value).ownBlock ∧ some k_ ≠ (.slice Ao39 t546.length co39 : Value).ownBlock ∧ some k_ ≠ (.slice Ao45 t524.length co45 : Value).ownBlock ∧ some k_ ≠ (.slice Ao50 t527.length co50 : Value).ownBlock) (Kd.R_keptB (HO_521000.out) hkp (fun k_ hk_ hs_ => Or.elim hs_ (fun e_ => (hk_.2.2.2.1) e_) (fun e_ => (hk_.2.2.2.2) e_))) (fun k_ hk_ => ⟨hk_.1.1, hk_.1.2.1, hk_.1.2.2.1, hk_.1.2.2.2.1, hk_.1.2.2.2.2⟩)); replace HO_521001 := Aside0.mk (Kd.R_mono (ok' := fun k_ => some k_ ≠ (.slice Ao28 t506.length co28 : Value).ownBlock ∧ some k_ ≠ (.slice Ao31 t509.length co31 : Value).ownBlock ∧ some k_ ≠ (.slice Ao35 t545.length co35 : Value).ownBlock ∧ some k_ ≠ (.slice Ao45 t524.length co45 : Value).ownBlock ∧ some k_ ≠ (.slice Ao50 t527.length co50 : Value).ownBlock) (Kd.R_keptB (HO_521001.out) hkp (fun k_ hk_ hs_ => Or.elim hs_ (fun e_ => (hk_.2.2.2.1) e_) (fun e_ => (hk_.2.2.2.2) e_))) (fun k_ hk_ => ⟨hk_.1.1, hk_.1.2.1, hk_.1.2.2.1, hk_.1.2.2.2.1, hk_.1.2.2.2.2⟩)); replace BK495 := Aside0.mk (blk_kept (kP BK495) hkp (fun hs_ => Or.elim hs_ (fun e_ => (fun e_ => (Kd.R_ne HO_532000.out BK495.out (by decide)) e_) e_) (fun e_ => (fun e_ => (Kd.R_ne HO_532001.out BK495.out (by decide)) e_) e_))); replace BK513 := Aside0.mk (blk_kept (kP BK513) hkp (fun hs_ => Or.elim hs_ (fun e_ => (fun e_ => (Kd.R_ne HO_532000.out BK513.out (by decide)) e_) e_) (fun e_ => (fun e_ => (Kd.R_ne HO_532001.out BK513.out (by decide)) e_) e_))); replace BK520 := Aside0.mk (blk_kept (kP BK520) hkp (fun hs_ => Or.elim hs_ (fun e_ => (fun e_ => (Kd.R_ne HO_532000.out BK520.out (by decide)) e_) e_) (fun e_ => (fun e_ => (Kd.R_ne HO_532001.out BK520.out (by decide)) e_) e_))); replace BK531 := Aside0.mk (blk_kept (kP BK531) hkp (fun hs_ => Or.elim hs_ (fun e_ => (fun e_ => (Kd.R_ne HO_532000.out BK531.out (by decide)) e_) e_) (fun e_ => (fun e_ => (Kd.R_ne HO_532001.out BK531.out (by decide)) e_) e_))); replace HO_532000 := Aside0.mk (Kd.R_reok rfl hy0 (fun k_ e_ => HO_532000.out.1 k_ e_)); replace HO_532001 := Aside0.mk (Kd.R_reok rfl hy1 (fun k_ e_ => HO_532001.out.1 k_ e_)); replace HB := Aside0.mk (hb); (try clear hb); (try clear hkp); (try clear hy0); (try clear hy1); have hcz125_0 := zc0 BK531; have hcz125_1 := zc1 BK531; have hfz125_0 := blk_frozen BK531.out 0; have hfz125_1 := blk_frozen BK531.out 1) | ((with_reducible refine gate_callee (f := 27) rfl ?_); refine goesL_ (some 86) rfl rfl Try.func27 (by kernel_rfl) rfl #[.agg #[.slice Ao45 t551.length co45, .slice Ao50 t552.length co50], .int .i64 1] rfl (by (try simp only [List.map_toArray, List.map_cons, List.map_nil]); first | done | (rw [show t551.length = t524.length from (Kd.R_reads' HO_532000.out).1.symm, show t552.length = t527.length from (Kd.R_reads' HO_532001.out).1.symm] <;> rfl) | rfl | (simp only [List.length_drop, List.length_take]; rfl)) ?_; (with_reducible refine (laws_heldMap.calls kj77 _ _ t551 _ _ t552 1 t553 _ ?side1 ?side2 ?side3 ?side4 A113.out).mono ?_); (case side1 => exact cP (Kd.R_reads' HO_532000.out).2.2); (case side2 => rw [show t551.length = t524.length from (Kd.R_reads' HO_532000.out).1.symm]; exact (Kd.R_reads' HO_532000.out).2.1); (case side3 => exact cP (Kd.R_reads' HO_532001.out).2.2); (case side4 => rw [show t552.length = t527.length from (Kd.R_reads' HO_532001.out).1.symm]; exact (Kd.R_reads' HO_532001.out).2.1); rintro e w126 ⟨rfl, hb⟩; refine ⟨_, rfl, ?_⟩; replace HO_514000 := rB HO_514000 hb; replace HO_514001 := rB HO_514001 hb; replace HO_521000 := rB HO_521000 hb; replace HO_521001 := rB HO_521001 hb; replace HO_532000 := rB HO_532000 hb; replace HO_532001 := rB HO_532001 hb; replace BK495 := kB BK495 hb; replace BK513 := kB BK513 hb; replace BK520 := kB BK520 hb; replace BK531 := kB BK531 hb; replace HB := bS HB hb; (try clear hb); (try clear hb2); (try clear hk); (try clear hi); have hnb127 := NB495_513.out; have hnc127 := NB513_495.out; have hnb128 := NB495_520.out; have hnc128 := NB520_495.out; have hcz129_0 := zc0 BK495; have hcz129_1 := zc1 BK495; have hfz129_0 := blk_frozen BK495.out 0; have hfz129_1 := blk_frozen BK495.out 1) | ((with_reducible refine gate_callee (f := 21) rfl ?_); refine gL (some 94) Try.func21 #[.agg #[.slice A0_0 l0_0.length c0_0, .slice A0_1 l0_1.length c0_1]] ?_; (with_reducible refine (laws_toMap.calls kj77 _ _ l0_0 _ _ l0_1 t554 t557 _ ?side1 ?side2 ?side3 ?side4 A116.out).mono ?_); (case side1 => exact cB HR0_0 HB); (case side2 => exact HC0_0.out); (case side3 => exact cB HR0_1 HB); (case side4 => exact HC0_1.out); rintro e w130 ⟨v555, v558, rfl, ho0, ho1, hb⟩; refine ⟨_, rfl, ?_⟩; have HO556 := Aside0.mk (Kd.R_lower (Kd.R_new' (Kd.R_new' (Kd.R_new' (Kd.R_new' (Kd.R_new' (Kd.R_new' ho0 (Kd.R_lt (rP HO_514000))) (Kd.R_lt (rP HO_514001))) (Kd.R_lt (rP HO_521000))) (Kd.R_lt (rP HO_521001))) (Kd.R_lt (rP HO_532000))) (Kd.R_lt (rP HO_532001))) (below_size (bP HB))); have HO559 := Aside0.mk (Kd.R_lower (Kd.R_new' (Kd.R_new' (Kd.R_new' (Kd.R_new' (Kd.R_new' (Kd.R_new' ho1 (Kd.R_lt (rP HO_514000))) (Kd.R_lt (rP HO_514001))) (Kd.R_lt (rP HO_521000))) (Kd.R_lt (rP HO_521001))) (Kd.R_lt (rP HO_532000))) (Kd.R_lt (rP HO_532001))) (below_size (bP HB))); replace HO_514000 := Aside0.mk (Kd.R_mono (Kd.R_told (Kd.R_told (Kd.R_old (rP HO_514000) hb) (Kd.R_base ho0)) (Kd.R_base ho1)) (fun _ h_ => h_.1)); replace HO_514001 := Aside0.mk (Kd.R_mono (Kd.R_told (Kd.R_told (Kd.R_old (rP HO_514001) hb) (Kd.R_base ho0)) (Kd.R_base ho1)) (fun _ h_ => h_.1)); replace HO_521000 := Aside0.mk (Kd.R_mono (Kd.R_told (Kd.R_told (Kd.R_old (rP HO_521000) hb) (Kd.R_base ho0)) (Kd.R_base ho1)) (fun _ h_ => h_.1)); replace HO_521001 := Aside0.mk (Kd.R_mono (Kd.R_told (Kd.R_told (Kd.R_old (rP HO_521001) hb) (Kd.R_base ho0)) (Kd.R_base ho1)) (fun _ h_ => h_.1)); replace HO_532000 := Aside0.mk (Kd.R_mono (Kd.R_told (Kd.R_told (Kd.R_old (rP HO_532000) hb) (Kd.R_base ho0)) (Kd.R_base ho1)) (fun _ h_ => h_.1)); replace HO_532001 := Aside0.mk (Kd.R_mono (Kd.R_told (Kd.R_told (Kd.R_old (rP HO_532001) hb) (Kd.R_base ho0)) (Kd.R_base ho1)) (fun _ h_ => h_.1)); replace BK495 := kB BK495 hb; replace BK513 := kB BK513 hb; replace BK520 := kB BK520 hb; replace BK531 := kB BK531 hb; replace HB := bS HB hb; (try clear hb); (try clear hb2); (try clear hk); (try clear hi); (try clear ho0); (try clear ho1)) | ((with_reducible refine gate_callee (f := 9) rfl ?_); refine gL (some 96) Try.func9 #[.slice A1 l1.length c1] ?_; (with_reducible refine (laws_toIntS.calls kj77 _ _ l1 t560 _ ?side1 ?side2 A117.out).mono ?_); (case side1 => exact cB HR1 HB); (case side2 => exact HC1.out); rintro e w131 ⟨v561, rfl, ho0, hb⟩; refine ⟨_, rfl, ?_⟩; have HO562 := Aside0.mk (Kd.R_lower (Kd.R_new' (Kd.R_new' (Kd.R_new' (Kd.R_new' (Kd.R_new' (Kd.R_new' (Kd.R_new' (Kd.R_new' ho0 (Kd.R_lt (rP HO_514000))) (Kd.R_lt (rP HO_514001))) (Kd.R_lt (rP HO_521000))) (Kd.R_lt (rP HO_521001))) (Kd.R_lt (rP HO_532000))) (Kd.R_lt (rP HO_532001))) (Kd.R_lt (rP HO556))) (Kd.R_lt (rP HO559))) (below_size (bP HB))); replace HO_514000 := Aside0.mk (Kd.R_elder' (rP HO_514000) (Kd.R_base ho0) hb); replace HO_514001 := Aside0.mk (Kd.R_elder' (rP HO_514001) (Kd.R_base ho0) hb); replace HO_521000 := Aside0.mk (Kd.R_elder' (rP HO_521000) (Kd.R_base ho0) hb); replace HO_521001 := Aside0.mk (Kd.R_elder' (rP HO_521001) (Kd.R_base ho0) hb); replace HO_532000 := Aside0.mk (Kd.R_elder' (rP HO_532000) (Kd.R_base ho0) hb); replace HO_532001 := Aside0.mk (Kd.R_elder' (rP HO_532001) (Kd.R_base ho0) hb); replace HO556 := Aside0.mk (Kd.R_elder' (rP HO556) (Kd.R_base ho0) hb); replace HO559 := Aside0.mk (Kd.R_elder' (rP HO559) (Kd.R_base ho0) hb); replace BK495 := kB BK495 hb; replace BK513 := kB BK513 hb; replace BK520 := kB BK520 hb; replace BK531 := kB BK531 hb; replace HB := bS HB hb; (try clear hb); (try clear hb2); (try clear hk); (try clear hi); (try clear ho0); obtain ⟨Ao132, co132, eo132⟩ := Kd.R_slice HO556.out; subst eo132; obtain ⟨Ao133, co133, eo133⟩ := Kd.R_slice HO559.out; subst eo133; obtain ⟨Ao134, co134, eo134⟩ := Kd.R_slice HO562.out; subst eo134) | ((with_reducible refine gate_callee (f := 25) rfl ?_); refine gL (some 97) Try.func25 #[.agg #[.slice Ao132 t554.length co132, .slice Ao133 t557.length co133], .slice Ao134 t560.length co134] ?_; (with_reducible refine (impl_MapRename.calls kj77 _ _ t554 _ _ t557 _ _ t560 t563 t566 t569 _ ?side1 ?side2 ?side3 ?side4 ?side5 ?side6 A118.out).mono ?_); (case side1 => exact cP (Kd.R_reads' HO556.out).2.2); (case side2 => exact (Kd.R_reads' HO556.out).2.1); (case side3 => exact cP (Kd.R_reads' HO559.out).2.2); (case side4 => exact (Kd.R_reads' HO559.out).2.1); (case side5 => exact cP (Kd.R_reads' HO562.out).2.2); (case side6 => exact (Kd.R_reads' HO562.out).2.1); rintro e w135 ⟨v564, v567, rfl, ho0, ho1, hb⟩; refine ⟨_, rfl, ?_⟩; have HO565 := Aside0.mk (Kd.R_lower (Kd.R_new' (Kd.R_new' (Kd.R_new' (Kd.R_new' (Kd.R_new' (Kd.R_new' (Kd.R_new' (Kd.R_new' (Kd.R_new' ho0 (Kd.R_lt (rP HO_514000))) (Kd.R_lt (rP HO_514001))) (Kd.R_lt (rP HO_521000))) (Kd.R_lt (rP HO_521001))) (Kd.R_lt (rP HO_532000))) (Kd.R_lt (rP HO_532001))) (Kd.R_lt (rP HO556))) (Kd.R_lt (rP HO559))) (Kd.R_lt (rP HO562))) (below_size (bP HB))); have HO568 := Aside0.mk (Kd.R_lower (Kd.R_new' (Kd.R_new' (Kd.R_new' (Kd.R_new' (Kd.R_new' (Kd.R_new' (Kd.R_new' (Kd.R_new' (Kd.R_new' ho1 (Kd.R_lt (rP HO_514000))) (Kd.R_lt (rP HO_514001))) (Kd.R_lt (rP HO_521000))) (Kd.R_lt (rP HO_521001))) (Kd.R_lt (rP HO_532000))) (Kd.R_lt (rP HO_532001))) (Kd.R_lt (rP HO556))) (Kd.R_lt (rP HO559))) (Kd.R_lt (rP HO562))) (below_size (bP HB))); replace HO_514000 := Aside0.mk (Kd.R_mono (Kd.R_told (Kd.R_told (Kd.R_old (rP HO_514000) hb) (Kd.R_base ho0)) (Kd.R_base ho1)) (fun _ h_ => h_.1)); replace HO_514001 := Aside0.mk (Kd.R_mono (Kd.R_told (Kd.R_told (Kd.R_old (rP HO_514001) hb) (Kd.R_base ho0)) (Kd.R_base ho1)) (fun _ h_ => h_.1)); replace HO_521000 := Aside0.mk (Kd.R_mono (Kd.R_told (Kd.R_told (Kd.R_old (rP HO_521000) hb) (Kd.R_base ho0)) (Kd.R_base ho1)) (fun _ h_ => h_.1)); replace HO_521001 := Aside0.mk (Kd.R_mono (Kd.R_told (Kd.R_told (Kd.R_old (rP HO_521001) hb) (Kd.R_base ho0)) (Kd.R_base ho1)) (fun _ h_ => h_.1)); replace HO_532000 := Aside0.mk (Kd.R_mono (Kd.R_told (Kd.R_told (Kd.R_old (rP HO_532000) hb) (Kd.R_base ho0)) (Kd.R_base ho1)) (fun _ h_ => h_.1)); replace HO_532001 := Aside0.mk (Kd.R_mono (Kd.R_told (Kd.R_told (Kd.R_old (rP HO_532001) hb) (Kd.R_base ho0)) (Kd.R_base ho1)) (fun _ h_ => h_.1)); replace HO556 := Aside0.mk (Kd.R_mono (Kd.R_told (Kd.R_told (Kd.R_old (rP HO556) hb) (Kd.R_base ho0)) (Kd.R_base ho1)) (fun _ h_ => h_.1)); replace HO559 := Aside0.mk (Kd.R_mono (Kd.R_told (Kd.R_told (Kd.R_old (rP HO559) hb) (Kd.R_base ho0)) (Kd.R_base ho1)) (fun _ h_ => h_.1)); replace HO562 := Aside0.mk (Kd.R_mono (Kd.R_told (Kd.R_told (Kd.R_old (rP HO562) hb) (Kd.R_base ho0)) (Kd.R_base ho1)) (fun _ h_ => h_.1)); replace BK495 := kB BK495 hb; replace BK513 := kB BK513 hb; replace BK520 := kB BK520 hb; replace BK531 := kB BK531 hb; replace HB := bS HB hb; (try clear hb); (try clear hb2); (try clear hk); (try clear hi); (try clear ho0); (try clear ho1)) | ((with_reducible refine gate_dst (N := 15) rfl ?_); refine bE 15 #[.slice none 0 0, .slice none 0 0] 40 ?_; intro gb570 hg w136 hbox hb; replace HO_514000 := rB HO_514000 hb; replace HO_514001 := rB HO_514001 hb; replace HO_521000 := rB HO_521000 hb; replace HO_521001 := rB HO_521001 hb; replace HO_532000 := rB HO_532000 hb; replace HO_532001 := rB HO_532001 hb; replace HO556 := rB HO556 hb; replace HO559 := rB HO559 hb; replace HO562 := rB HO562 hb; replace HO565 := rB HO565 hb; replace HO568 := rB HO568 hb; have BK570 := Aside0.mk (hbox); have GW570 := gS HB hg; have GE570 := gS HB hg; replace HB := bS HB hb; have NB495_570 := nL BK495 hg; have NB570_495 := nG BK495 hg; replace BK495 := kB BK495 hb; have NB513_570 := nL BK513 hg; have NB570_513 := nG BK513 hg; replace BK513 := kB BK513 hb; have NB520_570 := nL BK520 hg; have NB570_520 := nG BK520 hg; replace BK520 := kB BK520 hb; have NB531_570 := nL BK531 hg; have NB570_531 := nG BK531 hg; replace BK531 := kB BK531 hb; clear hb hbox hg; obtain ⟨Ao137, co137, eo137⟩ := Kd.R_slice HO565.out; subst eo137; have hnb138 := NB570_495.out; have hnc138 := NB495_570.out; have hnb139 := NB570_513.out; have hnc139 := NB513_570.out; have hnb140 := NB570_520.out; have hnc140 := NB520_570.out; have hnb141 := NB570_531.out; have hnc141 := NB531_570.out; have hcz142_0 := zc0 BK570; have hcz142_1 := zc1 BK570; have hfz142_0 := blk_frozen BK570.out 0; have hfz142_1 := blk_frozen BK570.out 1; obtain ⟨Ao143, co143, eo143⟩ := Kd.R_slice HO568.out; subst eo143))
             (try simp only [Act.put, List.setIfInBounds_toArray, List.set_cons_zero, List.set_cons_succ])
             go_cut [108] (fun v108 wc => ∃ (kq : Nat) (x108_118 : Bool), v108 = .bool x108_118 ∧ Aside0 (laws_FnExactMapRename.j2 kq t550 x108_118 t551 t552 = some r) ∧ Aside0 (kq ≤ kj77) ∧ Aside0 (Kd.R (Kd.int .i64) 3 wc w.heap.size (fun k_ => some k_ ≠ ((.slice Ao31 t509.length co31) : Value).ownBlock ∧ some k_ ≠ ((.slice Ao35 t545.length co35) : Value).ownBlock ∧ some k_ ≠ ((.slice Ao39 t546.length co39) : Value).ownBlock ∧ some k_ ≠ ((.slice Ao45 t524.length co45) : Value).ownBlock ∧ some k_ ≠ ((.slice Ao50 t527.length co50) : Value).ownBlock ∧ some k_ ≠ ((.slice Ao137 t563.length co137) : Value).ownBlock ∧ some k_ ≠ ((.slice Ao143 t566.length co143) : Value).ownBlock) (.slice Ao28 t506.length co28) t506) ∧ Aside0 (Kd.R (Kd.int .i64) 3 wc w.heap.size (fun k_ => some k_ ≠ ((.slice Ao28 t506.length co28) : Value).ownBlock ∧ some k_ ≠ ((.slice Ao35 t545.length co35) : Value).ownBlock ∧ some k_ ≠ ((.slice Ao39 t546.length co39) : Value).ownBlock ∧ some k_ ≠ ((.slice Ao45 t524.length co45) : Value).ownBlock ∧ some k_ ≠ ((.slice Ao50 t527.length co50) : Value).ownBlock ∧ some k_ ≠ ((.slice Ao137 t563.length co137) : Value).ownBlock ∧ some k_ ≠ ((.slice Ao143 t566.length co143) : Value).ownBlock) (.slice Ao31 t509.length co31) t509) ∧ Aside0 (Kd.R (Kd.int .i64) 3 wc w.heap.size (fun k_ => some k_ ≠ ((.slice Ao28 t506.length co28) : Value).ownBlock ∧ some k_ ≠ ((.slice Ao31 t509.length co31) : Value).ownBlock ∧ some k_ ≠ ((.slice Ao39 t546.length co39) : Value).ownBlock ∧ some k_ ≠ ((.slice Ao45 t524.length co45) : Value).ownBlock ∧ some k_ ≠ ((.slice Ao50 t527.length co50) : Value).ownBlock ∧ some k_ ≠ ((.slice Ao137 t563.length co137) : Value).ownBlock ∧ some k_ ≠ ((.slice Ao143 t566.length co143) : Value).ownBlock) (.slice Ao35 t545.length co35) t545) ∧ Aside0 (Kd.R (Kd.int .i64) 3 wc w.heap.size (fun k_ => some k_ ≠ ((.slice Ao28 t506.length co28) : Value).ownBlock ∧ some k_ ≠ ((.slice Ao31 t509.length co31) : Value).ownBlock ∧ some k_ ≠ ((.slice Ao35 t545.length co35) : Value).ownBlock ∧ some k_ ≠ ((.slice Ao45 t524.length co45) : Value).ownBlock ∧ some k_ ≠ ((.slice Ao50 t527.length co50) : Value).ownBlock ∧ some k_ ≠ ((.slice Ao137 t563.length co137) : Value).ownBlock ∧ some k_ ≠ ((.slice Ao143 t566.length co143) : Value).ownBlock) (.slice Ao39 t546.length co39) t546) ∧ Aside0 (Kd.R (Kd.int .i64) 3 wc w.heap.size (fun k_ => some k_ ≠ ((.slice Ao28 t506.length co28) : Value).ownBlock ∧ some k_ ≠ ((.slice Ao31 t509.length co31) : Value).ownBlock ∧ some k_ ≠ ((.slice Ao35 t545.length co35) : Value).ownBlock ∧ some k_ ≠ ((.slice Ao39 t546.length co39) : Value).ownBlock ∧ some k_ ≠ ((.slice Ao50 t527.length co50) : Value).ownBlock ∧ some k_ ≠ ((.slice Ao137 t563.length co137) : Value).ownBlock ∧ some k_ ≠ ((.slice Ao143 t566.length co143) : Value).ownBlock) (.slice Ao45 t524.length co45) t551) ∧ Aside0 (Kd.R (Kd.int .i64) 3 wc w.heap.size (fun k_ => some k_ ≠ ((.slice Ao28 t506.length co28) : Value).ownBlock ∧ some k_ ≠ ((.slice Ao31 t509.length co31) : Value).ownBlock ∧ some k_ ≠ ((.slice Ao35 t545.length co35) : Value).ownBlock ∧ some k_ ≠ ((.slice Ao39 t546.length co39) : Value).ownBlock ∧ some k_ ≠ ((.slice Ao45 t524.length co45) : Value).ownBlock ∧ some k_ ≠ ((.slice Ao137 t563.length co137) : Value).ownBlock ∧ some k_ ≠ ((.slice Ao143 t566.length co143) : Value).ownBlock) (.slice Ao50 t527.length co50) t552) ∧ Aside0 (Kd.R (Kd.int .i64) 3 wc w.heap.size (fun k_ => some k_ ≠ ((.slice Ao28 t506.length co28) : Value).ownBlock ∧ some k_ ≠ ((.slice Ao31 t509.length co31) : Value).ownBlock ∧ some k_ ≠ ((.slice Ao35 t545.length co35) : Value).ownBlock ∧ some k_ ≠ ((.slice Ao39 t546.length co39) : Value).ownBlock ∧ some k_ ≠ ((.slice Ao45 t524.length co45) : Value).ownBlock ∧ some k_ ≠ ((.slice Ao50 t527.length co50) : Value).ownBlock ∧ some k_ ≠ ((.slice Ao143 t566.length co143) : Value).ownBlock) (.slice Ao137 t563.length co137) t563) ∧ Aside0 (Kd.R (Kd.int .i64) 3 wc w.heap.size (fun k_ => some k_ ≠ ((.slice Ao28 t506.length co28) : Value).ownBlock ∧ some k_ ≠ ((.slice Ao31 t509.length co31) : Value).ownBlock ∧ some k_ ≠ ((.slice Ao35 t545.length co35) : Value).ownBlock ∧ some k_ ≠ ((.slice Ao39 t546.length co39) : Value).ownBlock ∧ some k_ ≠ ((.slice Ao45 t524.length co45) : Value).ownBlock ∧ some k_ ≠ ((.slice Ao50 t527.length co50) : Value).ownBlock ∧ some k_ ≠ ((.slice Ao137 t563.length co137) : Value).ownBlock) (.slice Ao143 t566.length co143) t566) ∧ Aside0 (wc.heap[gb495]? = some (.cells #[(.slice A0_0 l0_0.length c0_0), (.slice A0_1 l0_1.length c0_1)] 37 (0, 0))) ∧ Aside0 (wc.heap[gb513]? = some (.cells #[(.slice Ao28 t506.length co28), (.slice Ao31 t509.length co31)] 40 (0, 0))) ∧ Aside0 (wc.heap[gb520]? = some (.cells #[(.slice Ao35 t545.length co35), (.slice Ao39 t546.length co39)] 40 (0, 0))) ∧ Aside0 (wc.heap[gb531]? = some (.cells #[(.slice Ao45 t524.length co45), (.slice Ao50 t527.length co50)] 40 (0, 0))) ∧ Aside0 (wc.heap[gb570]? = some (.cells #[(.slice Ao137 t563.length co137), (.slice Ao143 t566.length co143)] 40 (0, 0))) ∧ Aside0 (Below w.heap.size w wc))
             case first =>
              have H := HC119.out
              clear HC119
              replace H := Option.bind_eq_some_iff.mp H
              obtain ⟨t571, A1440, H⟩ := H
              try dsimp only at H
              have A144 := Aside0.mk A1440
              clear A1440
              by_cases c145 : t571 = true
              ·subst c145
               rw [if_pos rfl] at H
               have H' := Aside0.mk H
               clear H
               have hnb146 := NB570_495.out
               have hnc146 := NB495_570.out
               have hnb147 := NB570_513.out
               have hnc147 := NB513_570.out
               have hnb148 := NB570_520.out
               have hnc148 := NB520_570.out
               have hnb149 := NB570_531.out
               have hnc149 := NB531_570.out
               have hcz150_0 := zc0 BK570
               have hcz150_1 := zc1 BK570
               have hfz150_0 := blk_frozen BK570.out 0
               have hfz150_1 := blk_frozen BK570.out 1
               have hnb151 := NB513_495.out
               have hnc151 := NB495_513.out
               have hnb152 := NB513_520.out
               have hnc152 := NB520_513.out
               have hnb153 := NB513_531.out
               have hnc153 := NB531_513.out
               have hcz154_0 := zc0 BK513
               have hcz154_1 := zc1 BK513
               have hfz154_0 := blk_frozen BK513.out 0
               have hfz154_1 := blk_frozen BK513.out 1
               go_wp2_with (first | ((with_reducible refine gate_callee (f := 23) rfl ?_); refine gL (some 102) Try.func23 #[.agg #[.slice Ao137 t563.length co137, .slice Ao143 t566.length co143], .agg #[.slice Ao28 t506.length co28, .slice Ao31 t509.length co31]] ?_; (with_reducible refine (laws_eqMap.calls kj77 _ _ t563 _ _ t566 _ _ t506 _ _ t509 true _ ?side1 ?side2 ?side3 ?side4 ?side5 ?side6 ?side7 ?side8 A144.out).mono ?_); (case side1 => refine (Kd.R_reads' (e := 3) (base := w.heap.size) (ok := fun k_ => (((((((((some k_ ≠ (.slice Ao143 t566.length co143 : Value).ownBlock ∧ some k_ ≠ (.slice Ao28 t506.length co28 : Value).ownBlock) ∧ some k_ ≠ (.slice Ao31 t509.length co31 : Value).ownBlock) ∧ some k_ ≠ (.slice Ao35 t545.length co35 : Value).ownBlock) ∧ some k_ ≠ (.slice Ao39 t546.length co39 : Value).ownBlock) ∧ some k_ ≠ (.slice Ao45 t524.length co45 : Value).ownBlock) ∧ some k_ ≠ (.slice Ao50 t527.length co50 : Value).ownBlock) ∧ some k_ ≠ (.slice Ao132 t554.length co132 : Value).ownBlock) ∧ some k_ ≠ (.slice Ao133 t557.length co133 : Value).ownBlock) ∧ some k_ ≠ (.slice Ao134 t560.length co134 : Value).ownBlock)) (n := t563.length) (c := co137) ?_).2.2; exact (rT (Kd.R_mono (Kd.R_far (p := ⟨gb570, 1, none⟩) (Kd.R_far (p := ⟨gb570, 0, none⟩) (Kd.R_types HO565.out BK570.out (by decide)) (fun _ hk => hk.2) (.slice Ao137 t563.length co137)) (fun _ hk => hk.2) (.slice Ao143 t566.length co143)) (fun _ h_ => h_.1)))); (case side2 => exact (Kd.R_reads' HO565.out).2.1); (case side3 => refine (Kd.R_reads' (e := 3) (base := w.heap.size) (ok := fun k_ => (((((((((some k_ ≠ (.slice Ao137 t563.length co137 : Value).ownBlock ∧ some k_ ≠ (.slice Ao28 t506.length co28 : Value).ownBlock) ∧ some k_ ≠ (.slice Ao31 t509.length co31 : Value).ownBlock) ∧ some k_ ≠ (.slice Ao35 t545.length co35 : Value).ownBlock) ∧ some k_ ≠ (.slice Ao39 t546.length co39 : Value).ownBlock) ∧ some k_ ≠ (.slice Ao45 t524.length co45 : Value).ownBlock) ∧ some k_ ≠ (.slice Ao50 t527.length co50 : Value).ownBlock) ∧ some k_ ≠ (.slice Ao132 t554.length co132 : Value).ownBlock) ∧ some k_ ≠ (.slice Ao133 t557.length co133 : Value).ownBlock) ∧ some k_ ≠ (.slice Ao134 t560.length co134 : Value).ownBlock)) (n := t566.length) (c := co143) ?_).2.2; exact (rT (Kd.R_mono (Kd.R_far (p := ⟨gb570, 1, none⟩) (Kd.R_far (p := ⟨gb570, 0, none⟩) (Kd.R_types HO568.out BK570.out (by decide)) (fun _ hk => hk.2) (.slice Ao137 t563.length co137)) (fun _ hk => hk.2) (.slice Ao143 t566.length co143)) (fun _ h_ => h_.1)))); (case side4 => exact (Kd.R_reads' HO568.out).2.1); (case side5 => refine (Kd.R_reads' (e := 3) (base := w.heap.size) (ok := fun k_ => ((((((some k_ ≠ (.slice Ao31 t509.length co31 : Value).ownBlock ∧ (some k_ ≠ (.slice Ao35 t545.length co35 : Value).ownBlock ∧ (some k_ ≠ (.slice Ao39 t546.length co39 : Value).ownBlock ∧ (some k_ ≠ (.slice Ao45 t524.length co45 : Value).ownBlock ∧ some k_ ≠ (.slice Ao50 t527.length co50 : Value).ownBlock)))) ∧ some k_ ≠ (.slice Ao132 t554.length co132 : Value).ownBlock) ∧ some k_ ≠ (.slice Ao133 t557.length co133 : Value).ownBlock) ∧ some k_ ≠ (.slice Ao134 t560.length co134 : Value).ownBlock) ∧ some k_ ≠ (.slice Ao137 t563.length co137 : Value).ownBlock) ∧ some k_ ≠ (.slice Ao143 t566.length co143 : Value).ownBlock)) (n := t506.length) (c := co28) ?_).2.2; exact (rT (Kd.R_mono (Kd.R_far (p := ⟨gb570, 1, none⟩) (Kd.R_far (p := ⟨gb570, 0, none⟩) (Kd.R_types HO_514000.out BK570.out (by decide)) (fun _ hk => hk.2) (.slice Ao137 t563.length co137)) (fun _ hk => hk.2) (.slice Ao143 t566.length co143)) (fun _ h_ => h_.1)))); (case side6 => exact (Kd.R_reads' HO_514000.out).2.1); (case side7 => refine (Kd.R_reads' (e := 3) (base := w.heap.size) (ok := fun k_ => ((((((some k_ ≠ (.slice Ao28 t506.length co28 : Value).ownBlock ∧ (some k_ ≠ (.slice Ao35 t545.length co35 : Value).ownBlock ∧ (some k_ ≠ (.slice Ao39 t546.length co39 : Value).ownBlock ∧ (some k_ ≠ (.slice Ao45 t524.length co45 : Value).ownBlock ∧ some k_ ≠ (.slice Ao50 t527.length co50 : Value).ownBlock)))) ∧ some k_ ≠ (.slice Ao132 t554.length co132 : Value).ownBlock) ∧ some k_ ≠ (.slice Ao133 t557.length co133 : Value).ownBlock) ∧ some k_ ≠ (.slice Ao134 t560.length co134 : Value).ownBlock) ∧ some k_ ≠ (.slice Ao137 t563.length co137 : Value).ownBlock) ∧ some k_ ≠ (.slice Ao143 t566.length co143 : Value).ownBlock)) (n := t509.length) (c := co31) ?_).2.2; exact (rT (Kd.R_mono (Kd.R_far (p := ⟨gb570, 1, none⟩) (Kd.R_far (p := ⟨gb570, 0, none⟩) (Kd.R_types HO_514001.out BK570.out (by decide)) (fun _ hk => hk.2) (.slice Ao137 t563.length co137)) (fun _ hk => hk.2) (.slice Ao143 t566.length co143)) (fun _ h_ => h_.1)))); (case side8 => exact (Kd.R_reads' HO_514001.out).2.1); rintro e w155 ⟨rfl, hb⟩; refine ⟨_, rfl, ?_⟩; replace HO_514000 := Aside0.mk (Kd.R_below (rT (Kd.R_mono (Kd.R_far (p := ⟨gb570, 1, none⟩) (Kd.R_far (p := ⟨gb570, 0, none⟩) (Kd.R_types HO_514000.out BK570.out (by decide)) (fun _ hk => hk.2) (.slice Ao137 t563.length co137)) (fun _ hk => hk.2) (.slice Ao143 t566.length co143)) (fun _ h_ => h_.1))) hb); replace HO_514001 := Aside0.mk (Kd.R_below (rT (Kd.R_mono (Kd.R_far (p := ⟨gb570, 1, none⟩) (Kd.R_far (p := ⟨gb570, 0, none⟩) (Kd.R_types HO_514001.out BK570.out (by decide)) (fun _ hk => hk.2) (.slice Ao137 t563.length co137)) (fun _ hk => hk.2) (.slice Ao143 t566.length co143)) (fun _ h_ => h_.1))) hb); replace HO_521000 := Aside0.mk (Kd.R_below (rT (Kd.R_mono (Kd.R_far (p := ⟨gb570, 1, none⟩) (Kd.R_far (p := ⟨gb570, 0, none⟩) (Kd.R_types HO_521000.out BK570.out (by decide)) (fun _ hk => hk.2) (.slice Ao137 t563.length co137)) (fun _ hk => hk.2) (.slice Ao143 t566.length co143)) (fun _ h_ => h_.1))) hb); replace HO_521001 := Aside0.mk (Kd.R_below (rT (Kd.R_mono (Kd.R_far (p := ⟨gb570, 1, none⟩) (Kd.R_far (p := ⟨gb570, 0, none⟩) (Kd.R_types HO_521001.out BK570.out (by decide)) (fun _ hk => hk.2) (.slice Ao137 t563.length co137)) (fun _ hk => hk.2) (.slice Ao143 t566.length co143)) (fun _ h_ => h_.1))) hb); replace HO_532000 := Aside0.mk (Kd.R_below (rT (Kd.R_mono (Kd.R_far (p := ⟨gb570, 1, none⟩) (Kd.R_far (p := ⟨gb570, 0, none⟩) (Kd.R_types HO_532000.out BK570.out (by decide)) (fun _ hk => hk.2) (.slice Ao137 t563.length co137)) (fun _ hk => hk.2) (.slice Ao143 t566.length co143)) (fun _ h_ => h_.1))) hb); replace HO_532001 := Aside0.mk (Kd.R_below (rT (Kd.R_mono (Kd.R_far (p := ⟨gb570, 1, none⟩) (Kd.R_far (p := ⟨gb570, 0, none⟩) (Kd.R_types HO_532001.out BK570.out (by decide)) (fun _ hk => hk.2) (.slice Ao137 t563.length co137)) (fun _ hk => hk.2) (.slice Ao143 t566.length co143)) (fun _ h_ => h_.1))) hb); replace HO556 := Aside0.mk (Kd.R_below (rT (Kd.R_mono (Kd.R_far (p := ⟨gb570, 1, none⟩) (Kd.R_far (p := ⟨gb570, 0, none⟩) (Kd.R_types HO556.out BK570.out (by decide)) (fun _ hk => hk.2) (.slice Ao137 t563.length co137)) (fun _ hk => hk.2) (.slice Ao143 t566.length co143)) (fun _ h_ => h_.1))) hb); replace HO559 := Aside0.mk (Kd.R_below (rT (Kd.R_mono (Kd.R_far (p := ⟨gb570, 1, none⟩) (Kd.R_far (p := ⟨gb570, 0, none⟩) (Kd.R_types HO559.out BK570.out (by decide)) (fun _ hk => hk.2) (.slice Ao137 t563.length co137)) (fun _ hk => hk.2) (.slice Ao143 t566.length co143)) (fun _ h_ => h_.1))) hb); replace HO562 := Aside0.mk (Kd.R_below (rT (Kd.R_mono (Kd.R_far (p := ⟨gb570, 1, none⟩) (Kd.R_far (p := ⟨gb570, 0, none⟩) (Kd.R_types HO562.out BK570.out (by decide)) (fun _ hk => hk.2) (.slice Ao137 t563.length co137)) (fun _ hk => hk.2) (.slice Ao143 t566.length co143)) (fun _ h_ => h_.1))) hb); replace HO565 := Aside0.mk (Kd.R_below (rT (Kd.R_mono (Kd.R_far (p := ⟨gb570, 1, none⟩) (Kd.R_far (p := ⟨gb570, 0, none⟩) (Kd.R_types HO565.out BK570.out (by decide)) (fun _ hk => hk.2) (.slice Ao137 t563.length co137)) (fun _ hk => hk.2) (.slice Ao143 t566.length co143)) (fun _ h_ => h_.1))) hb); replace HO568 := Aside0.mk (Kd.R_below (rT (Kd.R_mono (Kd.R_far (p := ⟨gb570, 1, none⟩) (Kd.R_far (p := ⟨gb570, 0, none⟩) (Kd.R_types HO568.out BK570.out (by decide)) (fun _ hk => hk.2) (.slice Ao137 t563.length co137)) (fun _ hk => hk.2) (.slice Ao143 t566.length co143)) (fun _ h_ => h_.1))) hb); replace BK495 := kG BK495 hb; replace BK513 := kG BK513 hb; replace BK520 := kG BK520 hb; replace BK531 := kG BK531 hb; replace BK570 := Aside0.mk (blk_below (g := gb570) (o := .cells #[.slice Ao137 t563.length co137, .slice Ao143 t566.length co143] 40 (0, 0)) (by (with_reducible repeat (first | refine blk_drewN ?_ _ | refine blk_drew ?_ | refine blk_alloc ?_ _)); refine blk_put (cs := #[.slice Ao137 t563.length co137, .slice none 0 0]) ?_ 1 _ rfl; (with_reducible repeat (first | refine blk_drewN ?_ _ | refine blk_drew ?_ | refine blk_alloc ?_ _)); refine blk_put (cs := #[.slice none 0 0, .slice none 0 0]) ?_ 0 _ rfl; (with_reducible repeat (first | refine blk_drewN ?_ _ | refine blk_drew ?_ | refine blk_alloc ?_ _)); exact BK570.out) hb); replace HB := bS HB hb; (try clear hb); (try clear hb2); (try clear hk); (try clear hi)))
               go_meet
               case rel => exact ⟨_, ((t569 != t512)), eS, H', ⟨by have := HJ15.out; have := HJ77.out; first | omega | exact Nat.le_refl _⟩, ⟨by (try simp only [hl521000_77]); (try simp only [hl521001_77]); (with_reducible repeat (first | apply Kd.R_alloc | apply Kd.R_drewN | apply Kd.R_drew)); exact Kd.R_mono HO_514000.out (fun _ hk => ⟨hk.1.1.1.1.1.1, ⟨hk.1.1.1.1.1.2.1, ⟨hk.1.1.1.1.1.2.2.1, ⟨hk.1.1.1.1.1.2.2.2.1, ⟨hk.1.1.1.1.1.2.2.2.2, ⟨hk.1.2, hk.2⟩⟩⟩⟩⟩⟩)⟩, ⟨by (try simp only [hl521000_77]); (try simp only [hl521001_77]); (with_reducible repeat (first | apply Kd.R_alloc | apply Kd.R_drewN | apply Kd.R_drew)); exact Kd.R_mono HO_514001.out (fun _ hk => ⟨hk.1.1.1.1.1.1, ⟨hk.1.1.1.1.1.2.1, ⟨hk.1.1.1.1.1.2.2.1, ⟨hk.1.1.1.1.1.2.2.2.1, ⟨hk.1.1.1.1.1.2.2.2.2, ⟨hk.1.2, hk.2⟩⟩⟩⟩⟩⟩)⟩, ⟨by (try simp only [hl521000_77]); (try simp only [hl521001_77]); (with_reducible repeat (first | apply Kd.R_alloc | apply Kd.R_drewN | apply Kd.R_drew)); exact Kd.R_mono HO_521000.out (fun _ hk => ⟨hk.1.1.1.1.1.1, ⟨hk.1.1.1.1.1.2.1, ⟨hk.1.1.1.1.1.2.2.1, ⟨hk.1.1.1.1.1.2.2.2.1, ⟨hk.1.1.1.1.1.2.2.2.2, ⟨hk.1.2, hk.2⟩⟩⟩⟩⟩⟩)⟩, ⟨by (try simp only [hl521000_77]); (try simp only [hl521001_77]); (with_reducible repeat (first | apply Kd.R_alloc | apply Kd.R_drewN | apply Kd.R_drew)); exact Kd.R_mono HO_521001.out (fun _ hk => ⟨hk.1.1.1.1.1.1, ⟨hk.1.1.1.1.1.2.1, ⟨hk.1.1.1.1.1.2.2.1, ⟨hk.1.1.1.1.1.2.2.2.1, ⟨hk.1.1.1.1.1.2.2.2.2, ⟨hk.1.2, hk.2⟩⟩⟩⟩⟩⟩)⟩, ⟨by (try simp only [hl521000_77]); (try simp only [hl521001_77]); (with_reducible repeat (first | apply Kd.R_alloc | apply Kd.R_drewN | apply Kd.R_drew)); exact Kd.R_mono HO_532000.out (fun _ hk => ⟨hk.1.1.1.1.1.1, ⟨hk.1.1.1.1.1.2.1, ⟨hk.1.1.1.1.1.2.2.1, ⟨hk.1.1.1.1.1.2.2.2.1, ⟨hk.1.1.1.1.1.2.2.2.2, ⟨hk.1.2, hk.2⟩⟩⟩⟩⟩⟩)⟩, ⟨by (try simp only [hl521000_77]); (try simp only [hl521001_77]); (with_reducible repeat (first | apply Kd.R_alloc | apply Kd.R_drewN | apply Kd.R_drew)); exact Kd.R_mono HO_532001.out (fun _ hk => ⟨hk.1.1.1.1.1.1, ⟨hk.1.1.1.1.1.2.1, ⟨hk.1.1.1.1.1.2.2.1, ⟨hk.1.1.1.1.1.2.2.2.1, ⟨hk.1.1.1.1.1.2.2.2.2, ⟨hk.1.2, hk.2⟩⟩⟩⟩⟩⟩)⟩, ⟨by (try simp only [hl521000_77]); (try simp only [hl521001_77]); (with_reducible repeat (first | apply Kd.R_alloc | apply Kd.R_drewN | apply Kd.R_drew)); exact Kd.R_mono HO565.out (fun _ hk => ⟨hk.1.1.1.1.1.1.1.1.2, ⟨hk.1.1.1.1.1.1.1.2, ⟨hk.1.1.1.1.1.1.2, ⟨hk.1.1.1.1.1.2, ⟨hk.1.1.1.1.2, ⟨hk.1.1.1.2, hk.1.1.1.1.1.1.1.1.1⟩⟩⟩⟩⟩⟩)⟩, ⟨by (try simp only [hl521000_77]); (try simp only [hl521001_77]); (with_reducible repeat (first | apply Kd.R_alloc | apply Kd.R_drewN | apply Kd.R_drew)); exact Kd.R_mono HO568.out (fun _ hk => ⟨hk.1.1.1.1.1.1.1.1.2, ⟨hk.1.1.1.1.1.1.1.2, ⟨hk.1.1.1.1.1.1.2, ⟨hk.1.1.1.1.1.2, ⟨hk.1.1.1.1.2, ⟨hk.1.1.1.2, hk.1.1.1.1.1.1.1.1.1⟩⟩⟩⟩⟩⟩)⟩, ⟨by (try simp only [hl521000_77]); (try simp only [hl521001_77]); (with_reducible repeat (first | refine blk_drewN ?_ _ | refine blk_drew ?_ | refine blk_alloc ?_ _)); exact BK495.out⟩, ⟨by (try simp only [hl521000_77]); (try simp only [hl521001_77]); (with_reducible repeat (first | refine blk_drewN ?_ _ | refine blk_drew ?_ | refine blk_alloc ?_ _)); exact BK513.out⟩, ⟨by (try simp only [hl521000_77]); (try simp only [hl521001_77]); (with_reducible repeat (first | refine blk_drewN ?_ _ | refine blk_drew ?_ | refine blk_alloc ?_ _)); exact BK520.out⟩, ⟨by (try simp only [hl521000_77]); (try simp only [hl521001_77]); (with_reducible repeat (first | refine blk_drewN ?_ _ | refine blk_drew ?_ | refine blk_alloc ?_ _)); exact BK531.out⟩, ⟨by (try simp only [hl521000_77]); (try simp only [hl521001_77]); (with_reducible repeat (first | refine blk_drewN ?_ _ | refine blk_drew ?_ | refine blk_alloc ?_ _)); exact BK570.out⟩, ⟨bP HB⟩⟩
              ·replace c145 := Bool.eq_false_iff.mpr c145
               subst c145
               rw [if_neg (show ¬ (false = true) by decide)] at H
               have H' := Aside0.mk H
               clear H
               have hnb156 := NB570_495.out
               have hnc156 := NB495_570.out
               have hnb157 := NB570_513.out
               have hnc157 := NB513_570.out
               have hnb158 := NB570_520.out
               have hnc158 := NB520_570.out
               have hnb159 := NB570_531.out
               have hnc159 := NB531_570.out
               have hcz160_0 := zc0 BK570
               have hcz160_1 := zc1 BK570
               have hfz160_0 := blk_frozen BK570.out 0
               have hfz160_1 := blk_frozen BK570.out 1
               have hnb161 := NB513_495.out
               have hnc161 := NB495_513.out
               have hnb162 := NB513_520.out
               have hnc162 := NB520_513.out
               have hnb163 := NB513_531.out
               have hnc163 := NB531_513.out
               have hcz164_0 := zc0 BK513
               have hcz164_1 := zc1 BK513
               have hfz164_0 := blk_frozen BK513.out 0
               have hfz164_1 := blk_frozen BK513.out 1
               go_wp2_with (first | ((with_reducible refine gate_callee (f := 23) rfl ?_); refine gL (some 102) Try.func23 #[.agg #[.slice Ao137 t563.length co137, .slice Ao143 t566.length co143], .agg #[.slice Ao28 t506.length co28, .slice Ao31 t509.length co31]] ?_; (with_reducible refine (laws_eqMap.calls kj77 _ _ t563 _ _ t566 _ _ t506 _ _ t509 false _ ?side1 ?side2 ?side3 ?side4 ?side5 ?side6 ?side7 ?side8 A144.out).mono ?_); (case side1 => refine (Kd.R_reads' (e := 3) (base := w.heap.size) (ok := fun k_ => (((((((((some k_ ≠ (.slice Ao143 t566.length co143 : Value).ownBlock ∧ some k_ ≠ (.slice Ao28 t506.length co28 : Value).ownBlock) ∧ some k_ ≠ (.slice Ao31 t509.length co31 : Value).ownBlock) ∧ some k_ ≠ (.slice Ao35 t545.length co35 : Value).ownBlock) ∧ some k_ ≠ (.slice Ao39 t546.length co39 : Value).ownBlock) ∧ some k_ ≠ (.slice Ao45 t524.length co45 : Value).ownBlock) ∧ some k_ ≠ (.slice Ao50 t527.length co50 : Value).ownBlock) ∧ some k_ ≠ (.slice Ao132 t554.length co132 : Value).ownBlock) ∧ some k_ ≠ (.slice Ao133 t557.length co133 : Value).ownBlock) ∧ some k_ ≠ (.slice Ao134 t560.length co134 : Value).ownBlock)) (n := t563.length) (c := co137) ?_).2.2; exact (rT (Kd.R_mono (Kd.R_far (p := ⟨gb570, 1, none⟩) (Kd.R_far (p := ⟨gb570, 0, none⟩) (Kd.R_types HO565.out BK570.out (by decide)) (fun _ hk => hk.2) (.slice Ao137 t563.length co137)) (fun _ hk => hk.2) (.slice Ao143 t566.length co143)) (fun _ h_ => h_.1)))); (case side2 => exact (Kd.R_reads' HO565.out).2.1); (case side3 => refine (Kd.R_reads' (e := 3) (base := w.heap.size) (ok := fun k_ => (((((((((some k_ ≠ (.slice Ao137 t563.length co137 : Value).ownBlock ∧ some k_ ≠ (.slice Ao28 t506.length co28 : Value).ownBlock) ∧ some k_ ≠ (.slice Ao31 t509.length co31 : Value).ownBlock) ∧ some k_ ≠ (.slice Ao35 t545.length co35 : Value).ownBlock) ∧ some k_ ≠ (.slice Ao39 t546.length co39 : Value).ownBlock) ∧ some k_ ≠ (.slice Ao45 t524.length co45 : Value).ownBlock) ∧ some k_ ≠ (.slice Ao50 t527.length co50 : Value).ownBlock) ∧ some k_ ≠ (.slice Ao132 t554.length co132 : Value).ownBlock) ∧ some k_ ≠ (.slice Ao133 t557.length co133 : Value).ownBlock) ∧ some k_ ≠ (.slice Ao134 t560.length co134 : Value).ownBlock)) (n := t566.length) (c := co143) ?_).2.2; exact (rT (Kd.R_mono (Kd.R_far (p := ⟨gb570, 1, none⟩) (Kd.R_far (p := ⟨gb570, 0, none⟩) (Kd.R_types HO568.out BK570.out (by decide)) (fun _ hk => hk.2) (.slice Ao137 t563.length co137)) (fun _ hk => hk.2) (.slice Ao143 t566.length co143)) (fun _ h_ => h_.1)))); (case side4 => exact (Kd.R_reads' HO568.out).2.1); (case side5 => refine (Kd.R_reads' (e := 3) (base := w.heap.size) (ok := fun k_ => ((((((some k_ ≠ (.slice Ao31 t509.length co31 : Value).ownBlock ∧ (some k_ ≠ (.slice Ao35 t545.length co35 : Value).ownBlock ∧ (some k_ ≠ (.slice Ao39 t546.length co39 : Value).ownBlock ∧ (some k_ ≠ (.slice Ao45 t524.length co45 : Value).ownBlock ∧ some k_ ≠ (.slice Ao50 t527.length co50 : Value).ownBlock)))) ∧ some k_ ≠ (.slice Ao132 t554.length co132 : Value).ownBlock) ∧ some k_ ≠ (.slice Ao133 t557.length co133 : Value).ownBlock) ∧ some k_ ≠ (.slice Ao134 t560.length co134 : Value).ownBlock) ∧ some k_ ≠ (.slice Ao137 t563.length co137 : Value).ownBlock) ∧ some k_ ≠ (.slice Ao143 t566.length co143 : Value).ownBlock)) (n := t506.length) (c := co28) ?_).2.2; exact (rT (Kd.R_mono (Kd.R_far (p := ⟨gb570, 1, none⟩) (Kd.R_far (p := ⟨gb570, 0, none⟩) (Kd.R_types HO_514000.out BK570.out (by decide)) (fun _ hk => hk.2) (.slice Ao137 t563.length co137)) (fun _ hk => hk.2) (.slice Ao143 t566.length co143)) (fun _ h_ => h_.1)))); (case side6 => exact (Kd.R_reads' HO_514000.out).2.1); (case side7 => refine (Kd.R_reads' (e := 3) (base := w.heap.size) (ok := fun k_ => ((((((some k_ ≠ (.slice Ao28 t506.length co28 : Value).ownBlock ∧ (some k_ ≠ (.slice Ao35 t545.length co35 : Value).ownBlock ∧ (some k_ ≠ (.slice Ao39 t546.length co39 : Value).ownBlock ∧ (some k_ ≠ (.slice Ao45 t524.length co45 : Value).ownBlock ∧ some k_ ≠ (.slice Ao50 t527.length co50 : Value).ownBlock)))) ∧ some k_ ≠ (.slice Ao132 t554.length co132 : Value).ownBlock) ∧ some k_ ≠ (.slice Ao133 t557.length co133 : Value).ownBlock) ∧ some k_ ≠ (.slice Ao134 t560.length co134 : Value).ownBlock) ∧ some k_ ≠ (.slice Ao137 t563.length co137 : Value).ownBlock) ∧ some k_ ≠ (.slice Ao143 t566.length co143 : Value).ownBlock)) (n := t509.length) (c := co31) ?_).2.2; exact (rT (Kd.R_mono (Kd.R_far (p := ⟨gb570, 1, none⟩) (Kd.R_far (p := ⟨gb570, 0, none⟩) (Kd.R_types HO_514001.out BK570.out (by decide)) (fun _ hk => hk.2) (.slice Ao137 t563.length co137)) (fun _ hk => hk.2) (.slice Ao143 t566.length co143)) (fun _ h_ => h_.1)))); (case side8 => exact (Kd.R_reads' HO_514001.out).2.1); rintro e w165 ⟨rfl, hb⟩; refine ⟨_, rfl, ?_⟩; replace HO_514000 := Aside0.mk (Kd.R_below (rT (Kd.R_mono (Kd.R_far (p := ⟨gb570, 1, none⟩) (Kd.R_far (p := ⟨gb570, 0, none⟩) (Kd.R_types HO_514000.out BK570.out (by decide)) (fun _ hk => hk.2) (.slice Ao137 t563.length co137)) (fun _ hk => hk.2) (.slice Ao143 t566.length co143)) (fun _ h_ => h_.1))) hb); replace HO_514001 := Aside0.mk (Kd.R_below (rT (Kd.R_mono (Kd.R_far (p := ⟨gb570, 1, none⟩) (Kd.R_far (p := ⟨gb570, 0, none⟩) (Kd.R_types HO_514001.out BK570.out (by decide)) (fun _ hk => hk.2) (.slice Ao137 t563.length co137)) (fun _ hk => hk.2) (.slice Ao143 t566.length co143)) (fun _ h_ => h_.1))) hb); replace HO_521000 := Aside0.mk (Kd.R_below (rT (Kd.R_mono (Kd.R_far (p := ⟨gb570, 1, none⟩) (Kd.R_far (p := ⟨gb570, 0, none⟩) (Kd.R_types HO_521000.out BK570.out (by decide)) (fun _ hk => hk.2) (.slice Ao137 t563.length co137)) (fun _ hk => hk.2) (.slice Ao143 t566.length co143)) (fun _ h_ => h_.1))) hb); replace HO_521001 := Aside0.mk (Kd.R_below (rT (Kd.R_mono (Kd.R_far (p := ⟨gb570, 1, none⟩) (Kd.R_far (p := ⟨gb570, 0, none⟩) (Kd.R_types HO_521001.out BK570.out (by decide)) (fun _ hk => hk.2) (.slice Ao137 t563.length co137)) (fun _ hk => hk.2) (.slice Ao143 t566.length co143)) (fun _ h_ => h_.1))) hb); replace HO_532000 := Aside0.mk (Kd.R_below (rT (Kd.R_mono (Kd.R_far (p := ⟨gb570, 1, none⟩) (Kd.R_far (p := ⟨gb570, 0, none⟩) (Kd.R_types HO_532000.out BK570.out (by decide)) (fun _ hk => hk.2) (.slice Ao137 t563.length co137)) (fun _ hk => hk.2) (.slice Ao143 t566.length co143)) (fun _ h_ => h_.1))) hb); replace HO_532001 := Aside0.mk (Kd.R_below (rT (Kd.R_mono (Kd.R_far (p := ⟨gb570, 1, none⟩) (Kd.R_far (p := ⟨gb570, 0, none⟩) (Kd.R_types HO_532001.out BK570.out (by decide)) (fun _ hk => hk.2) (.slice Ao137 t563.length co137)) (fun _ hk => hk.2) (.slice Ao143 t566.length co143)) (fun _ h_ => h_.1))) hb); replace HO556 := Aside0.mk (Kd.R_below (rT (Kd.R_mono (Kd.R_far (p := ⟨gb570, 1, none⟩) (Kd.R_far (p := ⟨gb570, 0, none⟩) (Kd.R_types HO556.out BK570.out (by decide)) (fun _ hk => hk.2) (.slice Ao137 t563.length co137)) (fun _ hk => hk.2) (.slice Ao143 t566.length co143)) (fun _ h_ => h_.1))) hb); replace HO559 := Aside0.mk (Kd.R_below (rT (Kd.R_mono (Kd.R_far (p := ⟨gb570, 1, none⟩) (Kd.R_far (p := ⟨gb570, 0, none⟩) (Kd.R_types HO559.out BK570.out (by decide)) (fun _ hk => hk.2) (.slice Ao137 t563.length co137)) (fun _ hk => hk.2) (.slice Ao143 t566.length co143)) (fun _ h_ => h_.1))) hb); replace HO562 := Aside0.mk (Kd.R_below (rT (Kd.R_mono (Kd.R_far (p := ⟨gb570, 1, none⟩) (Kd.R_far (p := ⟨gb570, 0, none⟩) (Kd.R_types HO562.out BK570.out (by decide)) (fun _ hk => hk.2) (.slice Ao137 t563.length co137)) (fun _ hk => hk.2) (.slice Ao143 t566.length co143)) (fun _ h_ => h_.1))) hb); replace HO565 := Aside0.mk (Kd.R_below (rT (Kd.R_mono (Kd.R_far (p := ⟨gb570, 1, none⟩) (Kd.R_far (p := ⟨gb570, 0, none⟩) (Kd.R_types HO565.out BK570.out (by decide)) (fun _ hk => hk.2) (.slice Ao137 t563.length co137)) (fun _ hk => hk.2) (.slice Ao143 t566.length co143)) (fun _ h_ => h_.1))) hb); replace HO568 := Aside0.mk (Kd.R_below (rT (Kd.R_mono (Kd.R_far (p := ⟨gb570, 1, none⟩) (Kd.R_far (p := ⟨gb570, 0, none⟩) (Kd.R_types HO568.out BK570.out (by decide)) (fun _ hk => hk.2) (.slice Ao137 t563.length co137)) (fun _ hk => hk.2) (.slice Ao143 t566.length co143)) (fun _ h_ => h_.1))) hb); replace BK495 := kG BK495 hb; replace BK513 := kG BK513 hb; replace BK520 := kG BK520 hb; replace BK531 := kG BK531 hb; replace BK570 := Aside0.mk (blk_below (g := gb570) (o := .cells #[.slice Ao137 t563.length co137, .slice Ao143 t566.length co143] 40 (0, 0)) (by (with_reducible repeat (first | refine blk_drewN ?_ _ | refine blk_drew ?_ | refine blk_alloc ?_ _)); refine blk_put (cs := #[.slice Ao137 t563.length co137, .slice none 0 0]) ?_ 1 _ rfl; (with_reducible repeat (first | refine blk_drewN ?_ _ | refine blk_drew ?_ | refine blk_alloc ?_ _)); refine blk_put (cs := #[.slice none 0 0, .slice none 0 0]) ?_ 0 _ rfl; (with_reducible repeat (first | refine blk_drewN ?_ _ | refine blk_drew ?_ | refine blk_alloc ?_ _)); exact BK570.out) hb); replace HB := bS HB hb; (try clear hb); (try clear hb2); (try clear hk); (try clear hi)))
               go_meet
               case rel => exact ⟨_, (true), eS, H', ⟨by have := HJ15.out; have := HJ77.out; first | omega | exact Nat.le_refl _⟩, ⟨by (try simp only [hl521000_77]); (try simp only [hl521001_77]); (with_reducible repeat (first | apply Kd.R_alloc | apply Kd.R_drewN | apply Kd.R_drew)); exact Kd.R_mono HO_514000.out (fun _ hk => ⟨hk.1.1.1.1.1.1, ⟨hk.1.1.1.1.1.2.1, ⟨hk.1.1.1.1.1.2.2.1, ⟨hk.1.1.1.1.1.2.2.2.1, ⟨hk.1.1.1.1.1.2.2.2.2, ⟨hk.1.2, hk.2⟩⟩⟩⟩⟩⟩)⟩, ⟨by (try simp only [hl521000_77]); (try simp only [hl521001_77]); (with_reducible repeat (first | apply Kd.R_alloc | apply Kd.R_drewN | apply Kd.R_drew)); exact Kd.R_mono HO_514001.out (fun _ hk => ⟨hk.1.1.1.1.1.1, ⟨hk.1.1.1.1.1.2.1, ⟨hk.1.1.1.1.1.2.2.1, ⟨hk.1.1.1.1.1.2.2.2.1, ⟨hk.1.1.1.1.1.2.2.2.2, ⟨hk.1.2, hk.2⟩⟩⟩⟩⟩⟩)⟩, ⟨by (try simp only [hl521000_77]); (try simp only [hl521001_77]); (with_reducible repeat (first | apply Kd.R_alloc | apply Kd.R_drewN | apply Kd.R_drew)); exact Kd.R_mono HO_521000.out (fun _ hk => ⟨hk.1.1.1.1.1.1, ⟨hk.1.1.1.1.1.2.1, ⟨hk.1.1.1.1.1.2.2.1, ⟨hk.1.1.1.1.1.2.2.2.1, ⟨hk.1.1.1.1.1.2.2.2.2, ⟨hk.1.2, hk.2⟩⟩⟩⟩⟩⟩)⟩, ⟨by (try simp only [hl521000_77]); (try simp only [hl521001_77]); (with_reducible repeat (first | apply Kd.R_alloc | apply Kd.R_drewN | apply Kd.R_drew)); exact Kd.R_mono HO_521001.out (fun _ hk => ⟨hk.1.1.1.1.1.1, ⟨hk.1.1.1.1.1.2.1, ⟨hk.1.1.1.1.1.2.2.1, ⟨hk.1.1.1.1.1.2.2.2.1, ⟨hk.1.1.1.1.1.2.2.2.2, ⟨hk.1.2, hk.2⟩⟩⟩⟩⟩⟩)⟩, ⟨by (try simp only [hl521000_77]); (try simp only [hl521001_77]); (with_reducible repeat (first | apply Kd.R_alloc | apply Kd.R_drewN | apply Kd.R_drew)); exact Kd.R_mono HO_532000.out (fun _ hk => ⟨hk.1.1.1.1.1.1, ⟨hk.1.1.1.1.1.2.1, ⟨hk.1.1.1.1.1.2.2.1, ⟨hk.1.1.1.1.1.2.2.2.1, ⟨hk.1.1.1.1.1.2.2.2.2, ⟨hk.1.2, hk.2⟩⟩⟩⟩⟩⟩)⟩, ⟨by (try simp only [hl521000_77]); (try simp only [hl521001_77]); (with_reducible repeat (first | apply Kd.R_alloc | apply Kd.R_drewN | apply Kd.R_drew)); exact Kd.R_mono HO_532001.out (fun _ hk => ⟨hk.1.1.1.1.1.1, ⟨hk.1.1.1.1.1.2.1, ⟨hk.1.1.1.1.1.2.2.1, ⟨hk.1.1.1.1.1.2.2.2.1, ⟨hk.1.1.1.1.1.2.2.2.2, ⟨hk.1.2, hk.2⟩⟩⟩⟩⟩⟩)⟩, ⟨by (try simp only [hl521000_77]); (try simp only [hl521001_77]); (with_reducible repeat (first | apply Kd.R_alloc | apply Kd.R_drewN | apply Kd.R_drew)); exact Kd.R_mono HO565.out (fun _ hk => ⟨hk.1.1.1.1.1.1.1.1.2, ⟨hk.1.1.1.1.1.1.1.2, ⟨hk.1.1.1.1.1.1.2, ⟨hk.1.1.1.1.1.2, ⟨hk.1.1.1.1.2, ⟨hk.1.1.1.2, hk.1.1.1.1.1.1.1.1.1⟩⟩⟩⟩⟩⟩)⟩, ⟨by (try simp only [hl521000_77]); (try simp only [hl521001_77]); (with_reducible repeat (first | apply Kd.R_alloc | apply Kd.R_drewN | apply Kd.R_drew)); exact Kd.R_mono HO568.out (fun _ hk => ⟨hk.1.1.1.1.1.1.1.1.2, ⟨hk.1.1.1.1.1.1.1.2, ⟨hk.1.1.1.1.1.1.2, ⟨hk.1.1.1.1.1.2, ⟨hk.1.1.1.1.2, ⟨hk.1.1.1.2, hk.1.1.1.1.1.1.1.1.1⟩⟩⟩⟩⟩⟩)⟩, ⟨by (try simp only [hl521000_77]); (try simp only [hl521001_77]); (with_reducible repeat (first | refine blk_drewN ?_ _ | refine blk_drew ?_ | refine blk_alloc ?_ _)); exact BK495.out⟩, ⟨by (try simp only [hl521000_77]); (try simp only [hl521001_77]); (with_reducible repeat (first | refine blk_drewN ?_ _ | refine blk_drew ?_ | refine blk_alloc ?_ _)); exact BK513.out⟩, ⟨by (try simp only [hl521000_77]); (try simp only [hl521001_77]); (with_reducible repeat (first | refine blk_drewN ?_ _ | refine blk_drew ?_ | refine blk_alloc ?_ _)); exact BK520.out⟩, ⟨by (try simp only [hl521000_77]); (try simp only [hl521001_77]); (with_reducible repeat (first | refine blk_drewN ?_ _ | refine blk_drew ?_ | refine blk_alloc ?_ _)); exact BK531.out⟩, ⟨by (try simp only [hl521000_77]); (try simp only [hl521001_77]); (with_reducible repeat (first | refine blk_drewN ?_ _ | refine blk_drew ?_ | refine blk_alloc ?_ _)); exact BK570.out⟩, ⟨bP HB⟩⟩
             case rest =>
              clear HC119
              try clear c1
              try clear c2
              try clear p2
              try clear c3
              try clear c3b0
              try clear c3b1
              try clear c4
              try clear c5
              try clear c6
              try clear c6b0
              try clear c7
              try clear c8
              try clear c9
              try clear c10
              try clear c11
              try clear c12
              try clear c13
              try clear c14
              try clear c15
              try clear c16
              try clear c19
              try clear c21
              try clear c23
              try clear c24
              try clear c25
              try clear c26
              try clear c27
              try clear c29
              try clear c36
              try clear c37
              try clear c46
              try clear c47
              try clear c48
              try clear c52
              try clear c53
              try clear c54
              try clear c55
              try clear c57
              try clear c58
              try clear c61
              try clear c62
              try clear c63
              try clear c65
              try clear c66
              try clear c69
              try clear c72
              try clear c75
              try clear c86
              try clear c87
              try clear c88
              try clear c92
              try clear c92b0
              try clear c94
              try clear c95
              try clear c96
              try clear c97
              try clear c99
              try clear c100
              try clear c103
              try clear c104
              try clear c105
              try clear c107
              try clear c108
              try clear c111
              try clear c114
              try clear c114b0
              try clear c115
              try clear c115b0
              try clear c115b1
              try clear c120
              try clear c121
              try clear c122
              try clear c127
              try clear c128
              try clear c138
              try clear c139
              try clear c140
              try clear c141
              try clear c145
              try clear c146
              try clear c147
              try clear c148
              try clear c149
              try clear c151
              try clear c152
              try clear c153
              try clear c156
              try clear c157
              try clear c158
              try clear c159
              try clear c161
              try clear c162
              try clear c163
              try clear hcz101_0
              try clear hcz101_1
              try clear hcz106_0
              try clear hcz106_1
              try clear hcz109_0
              try clear hcz109_1
              try clear hcz123_0
              try clear hcz123_1
              try clear hcz125_0
              try clear hcz125_1
              try clear hcz129_0
              try clear hcz129_1
              try clear hcz142_0
              try clear hcz142_1
              try clear hcz150_0
              try clear hcz150_1
              try clear hcz154_0
              try clear hcz154_1
              try clear hcz160_0
              try clear hcz160_1
              try clear hcz164_0
              try clear hcz164_1
              try clear hcz18_0
              try clear hcz18_1
              try clear hcz20_0
              try clear hcz20_1
              try clear hcz30_0
              try clear hcz30_1
              try clear hcz32_0
              try clear hcz32_1
              try clear hcz38_0
              try clear hcz38_1
              try clear hcz41_0
              try clear hcz41_1
              try clear hcz49_0
              try clear hcz49_1
              try clear hcz56_0
              try clear hcz56_1
              try clear hcz59_0
              try clear hcz59_1
              try clear hcz64_0
              try clear hcz64_1
              try clear hcz67_0
              try clear hcz67_1
              try clear hcz89_0
              try clear hcz89_1
              try clear hcz8_0
              try clear hcz8_1
              try clear hcz98_0
              try clear hcz98_1
              try clear hfz101_0
              try clear hfz101_1
              try clear hfz106_0
              try clear hfz106_1
              try clear hfz109_0
              try clear hfz109_1
              try clear hfz123_0
              try clear hfz123_1
              try clear hfz125_0
              try clear hfz125_1
              try clear hfz129_0
              try clear hfz129_1
              try clear hfz142_0
              try clear hfz142_1
              try clear hfz150_0
              try clear hfz150_1
              try clear hfz154_0
              try clear hfz154_1
              try clear hfz160_0
              try clear hfz160_1
              try clear hfz164_0
              try clear hfz164_1
              try clear hfz18_0
              try clear hfz18_1
              try clear hfz20_0
              try clear hfz20_1
              try clear hfz30_0
              try clear hfz30_1
              try clear hfz32_0
              try clear hfz32_1
              try clear hfz38_0
              try clear hfz38_1
              try clear hfz41_0
              try clear hfz41_1
              try clear hfz49_0
              try clear hfz49_1
              try clear hfz56_0
              try clear hfz56_1
              try clear hfz59_0
              try clear hfz59_1
              try clear hfz64_0
              try clear hfz64_1
              try clear hfz67_0
              try clear hfz67_1
              try clear hfz89_0
              try clear hfz89_1
              try clear hfz8_0
              try clear hfz8_1
              try clear hfz98_0
              try clear hfz98_1
              try clear p2
              obtain ⟨kq, x108_118, rfl, HA, HJ118, HO_514000, HO_514001, HO_521000, HO_521001, HO_532000, HO_532001, HO_571000, HO_571001, BK495, BK513, BK520, BK531, BK570, HB⟩ := hcut
              have hl532000_118 := (Kd.R_reads' HO_532000.out).1
              rw [hl532000_118] at HO_532000
              (try simp only [hl532000_118])
              (try simp only [hl532000_118] at BK495)
              (try simp only [hl532000_118] at BK513)
              (try simp only [hl532000_118] at BK520)
              (try simp only [hl532000_118] at BK531)
              (try simp only [hl532000_118] at BK570)
              (try simp only [hl532000_118] at HO_514000)
              (try simp only [hl532000_118] at HO_514001)
              (try simp only [hl532000_118] at HO_521000)
              (try simp only [hl532000_118] at HO_521001)
              (try simp only [hl532000_118] at HO_532001)
              (try simp only [hl532000_118] at HO_571000)
              (try simp only [hl532000_118] at HO_571001)
              have hl532001_118 := (Kd.R_reads' HO_532001.out).1
              rw [hl532001_118] at HO_532001
              (try simp only [hl532001_118])
              (try simp only [hl532001_118] at BK495)
              (try simp only [hl532001_118] at BK513)
              (try simp only [hl532001_118] at BK520)
              (try simp only [hl532001_118] at BK531)
              (try simp only [hl532001_118] at BK570)
              (try simp only [hl532001_118] at HO_514000)
              (try simp only [hl532001_118] at HO_514001)
              (try simp only [hl532001_118] at HO_521000)
              (try simp only [hl532001_118] at HO_521001)
              (try simp only [hl532001_118] at HO_532000)
              (try simp only [hl532001_118] at HO_571000)
              (try simp only [hl532001_118] at HO_571001)
              cases kq with
              | zero => exact absurd HA.out (by simp [laws_FnExactMapRename.j2])
              | succ kj118 =>
               have H := HA.out
               clear HA
               simp only [laws_FnExactMapRename.j2] at H
               by_cases c166 : x108_118 = true
               ·subst c166
                rw [if_pos rfl] at H
                exact absurd ((Option.some.inj H).trans hr_.out) (by decide)
               ·replace c166 := Bool.eq_false_iff.mpr c166
                subst c166
                rw [if_neg (show ¬ (false = true) by decide)] at H
                replace H := Option.bind_eq_some_iff.mp H
                obtain ⟨t572, A1670, H⟩ := H
                try dsimp only at H
                have A167 := Aside0.mk A1670
                clear A1670
                by_cases c168 : t572 < 0
                ·rw [if_pos c168] at H
                 have c168b0 : decide (t572 < 0) = true := decide_eq_true c168
                 clear c168
                 exact absurd ((Option.some.inj H).trans hr_.out) (by decide)
                ·rw [if_neg c168] at H
                 have c168b0 : decide (t572 < 0) = false := decide_eq_false c168
                 clear c168
                 by_cases c169 : t572 = t550
                 ·rw [if_pos c169] at H
                  have c169b0 : (t572 == t550) = true := beq_iff_eq.mpr c169
                  have c169b1 : (t572 != t550) = false := bne_eq_false_iff_eq.mpr c169
                  clear c169
                  obtain rfl := Option.some.inj H
                  have hnb170 := NB531_495.out
                  have hnc170 := NB495_531.out
                  have hnb171 := NB531_513.out
                  have hnc171 := NB513_531.out
                  have hnb172 := NB531_520.out
                  have hnc172 := NB520_531.out
                  have hnb173 := NB531_570.out
                  have hnc173 := NB570_531.out
                  have hcz174_0 := zc0 BK531
                  have hcz174_1 := zc1 BK531
                  have hfz174_0 := blk_frozen BK531.out 0
                  have hfz174_1 := blk_frozen BK531.out 1
                  go_wp2_with (first | ((with_reducible refine gate_callee (f := 27) rfl ?_); refine gL (some 111) Try.func27 #[.agg #[.slice Ao45 t551.length co45, .slice Ao50 t552.length co50], .int .i64 1] ?_; (with_reducible refine (laws_heldMap.calls kj118 _ _ t551 _ _ t552 1 t572 _ ?side1 ?side2 ?side3 ?side4 A167.out).mono ?_); (case side1 => exact cP (Kd.R_reads' HO_532000.out).2.2); (case side2 => exact (Kd.R_reads' HO_532000.out).2.1); (case side3 => exact cP (Kd.R_reads' HO_532001.out).2.2); (case side4 => exact (Kd.R_reads' HO_532001.out).2.1); rintro e w175 ⟨rfl, hb⟩; refine ⟨_, rfl, ?_⟩; replace HO_514000 := rB HO_514000 hb; replace HO_514001 := rB HO_514001 hb; replace HO_521000 := rB HO_521000 hb; replace HO_521001 := rB HO_521001 hb; replace HO_532000 := rB HO_532000 hb; replace HO_532001 := rB HO_532001 hb; replace HO_571000 := rB HO_571000 hb; replace HO_571001 := rB HO_571001 hb; replace BK495 := kB BK495 hb; replace BK513 := kB BK513 hb; replace BK520 := kB BK520 hb; replace BK531 := kB BK531 hb; replace BK570 := kB BK570 hb; replace HB := bS HB hb; (try clear hb); (try clear hb2); (try clear hk); (try clear hi)))
                  go_ret
                  exact ⟨eR, bP HB⟩
                 ·rw [if_neg c169] at H
                  have c169b0 : (t572 == t550) = false := beq_eq_false_iff_ne.mpr c169
                  have c169b1 : (t572 != t550) = true := bne_iff_ne.mpr c169
                  exact absurd ((Option.some.inj H).trans hr_.out) (by decide)
            ·rw [if_neg c115] at H
             have c115b0 : (t553 == t550) = false := beq_eq_false_iff_ne.mpr c115
             have c115b1 : (t553 != t550) = true := bne_iff_ne.mpr c115
             exact absurd ((Option.some.inj H).trans hr_.out) (by decide)
       ·replace c75 := Bool.eq_false_iff.mpr c75
        subst c75
        rw [if_neg (show ¬ (false = true) by decide)] at H
        exact absurd ((Option.some.inj H).trans hr_.out) (by decide)
      ·replace c72 := Bool.eq_false_iff.mpr c72
       subst c72
       rw [if_neg (show ¬ (false = true) by decide)] at H
       exact absurd ((Option.some.inj H).trans hr_.out) (by decide)

end Go.Proofs.Ytajmkjeiegdpcaa.F
