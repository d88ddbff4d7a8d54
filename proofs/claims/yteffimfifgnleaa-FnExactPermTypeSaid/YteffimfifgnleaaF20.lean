/- Contracts: what these Go functions return. -/
import Derived.Test.YteffimfifgnleaaF0
import Derived.Test.YteffimfifgnleaaF3
import Derived.Test.YteffimfifgnleaaF4
import Derived.Test.YteffimfifgnleaaF17
import Derived.Test.YteffimfifgnleaaF18
import Derived.Test.YteffimfifgnleaaF19
namespace Go.Proofs.Yteffimfifgnleaa.F
open Go.RowKit Go.Proofs.YteffimfifgnleaaW.PrintWords Go.Proofs.YteffimfifgnleaaW.PrintLast Go.Proofs.YteffimfifgnleaaW.PrintMore
attribute [local go_sem] max2_int min2_int max_two min_two max_three min_three max_four min_four
set_option linter.unusedVariables false
set_option linter.unusedSimpArgs false

/-! ### laws_FnExactPermType: function 3 -/
mutual
def laws_FnExactPermType.j0 : Nat → List Int → List Int → Bool → List Int → List Int → Bool → Bool → Option (Bool)
 | 0, _, _, _, _, _, _, _ => none
 | k + 1, x0, x3, x4, x5, x6, x7, x37 => if x37 = true then (some false) else ((laws_toIntS.f k x0).bind fun t324 => ((laws_eqIntS.f k x5 t324).bind fun t327 => (if t327 = true then ((laws_markIntS.f k x5 1).bind fun bt328 => (if bt328.1 < 0 then (laws_FnExactPermType.j1 k x0 x3 x4 x6 true) else ((laws_eqIntS.f k x6 x3).bind fun t330 => (if t330 = true then (laws_FnExactPermType.j1 k x0 x3 x4 x6 (x7 != x4)) else (laws_FnExactPermType.j1 k x0 x3 x4 x6 true))))) else (some false))))
def laws_FnExactPermType.j1 : Nat → List Int → List Int → Bool → List Int → Bool → Option (Bool)
 | 0, _, _, _, _, _ => none
 | k + 1, x0, x3, x4, x6, x58 => if x58 = true then (some false) else ((laws_markIntS.f k x6 1).bind fun bt331 => ((laws_heldIntS.f k bt331.2 1).bind fun t333 => (if t333 < 0 then (some false) else (if t333 = bt331.1 then ((laws_toIntS.f k x0).bind fun t334 => ((impl_PermType.f k t334).bind fun bt337 => ((laws_eqIntS.f k bt337.1 x3).bind fun t341 => (if t341 = true then (laws_FnExactPermType.j2 k bt331.2 bt331.1 (bt337.2 != x4)) else (laws_FnExactPermType.j2 k bt331.2 bt331.1 true))))) else (some false)))))
def laws_FnExactPermType.j2 : Nat → List Int → Int → Bool → Option (Bool)
 | 0, _, _, _ => none
 | k + 1, x6, x9, x84 => if x84 = true then (some false) else ((laws_heldIntS.f k x6 1).bind fun t342 => (if t342 < 0 then (some false) else (if t342 = x9 then (some true) else (some false))))
end
def laws_FnExactPermType.f (k : Nat) (l0 : List Int) : Option (Bool) := if (l0.length : Int) > 1048576 then (some true) else ((laws_toIntS.f k l0).bind fun t309 => ((spec_PermType.f k t309).bind fun bt312 => ((laws_toIntS.f k l0).bind fun t316 => ((impl_PermType.f k t316).bind fun bt319 => ((laws_eqIntS.f k bt319.1 bt312.1).bind fun t323 => (if t323 = true then (laws_FnExactPermType.j0 k l0 bt312.1 bt312.2 t316 bt319.1 bt319.2 (bt319.2 != bt312.2)) else (laws_FnExactPermType.j0 k l0 bt312.1 bt312.2 t316 bt319.1 bt319.2 true)))))))
theorem laws_FnExactPermType.mono_l : ∀ k, (∀ y0 y1 y2 y3 y4 y5 y6, LeO (laws_FnExactPermType.j0 k y0 y1 y2 y3 y4 y5 y6) (laws_FnExactPermType.j0 (k + 1) y0 y1 y2 y3 y4 y5 y6)) ∧ (∀ y0 y1 y2 y3 y4, LeO (laws_FnExactPermType.j1 k y0 y1 y2 y3 y4) (laws_FnExactPermType.j1 (k + 1) y0 y1 y2 y3 y4)) ∧ (∀ y0 y1 y2, LeO (laws_FnExactPermType.j2 k y0 y1 y2) (laws_FnExactPermType.j2 (k + 1) y0 y1 y2))
 | 0 => ⟨fun _ _ _ _ _ _ _ r h => by simp [laws_FnExactPermType.j0] at h, fun _ _ _ _ _ r h => by simp [laws_FnExactPermType.j1] at h, fun _ _ _ r h => by simp [laws_FnExactPermType.j2] at h⟩
 | k + 1 => by
  obtain ⟨ih0, ih1, ih2⟩ := laws_FnExactPermType.mono_l k
  refine ⟨?_, ?_, ?_⟩
  ·intro y0 y1 y2 y3 y4 y5 y6
   unfold laws_FnExactPermType.j0
   repeat' first
   | (with_reducible exact ih0 _ _ _ _ _ _ _)
   | (with_reducible exact ih1 _ _ _ _ _)
   | (with_reducible exact ih2 _ _ _)
   | (with_reducible exact impl_PermType.mono _ _)
   | (with_reducible exact laws_eqIntS.mono _ _ _)
   | (with_reducible exact laws_heldIntS.mono _ _ _)
   | (with_reducible exact laws_markIntS.mono _ _ _)
   | (with_reducible exact laws_toIntS.mono _ _)
   | (with_reducible exact spec_PermType.mono _ _)
   | (with_reducible exact LeO.refl _)
   | (with_reducible exact LeO.none _)
   | (with_reducible refine LeO.ite ?_ ?_)
   | (with_reducible refine LeO.bind ?_ (fun _ => ?_))
   | exact ih0 _ _ _ _ _ _ _
   | exact ih1 _ _ _ _ _
   | exact ih2 _ _ _
   | exact impl_PermType.mono _ _
   | exact laws_eqIntS.mono _ _ _
   | exact laws_heldIntS.mono _ _ _
   | exact laws_markIntS.mono _ _ _
   | exact laws_toIntS.mono _ _
   | exact spec_PermType.mono _ _
   | exact LeO.none _
   | refine LeO.ite ?_ ?_
   | refine LeO.bind ?_ (fun _ => ?_)
  ·intro y0 y1 y2 y3 y4
   unfold laws_FnExactPermType.j1
   repeat' first
   | (with_reducible exact ih0 _ _ _ _ _ _ _)
   | (with_reducible exact ih1 _ _ _ _ _)
   | (with_reducible exact ih2 _ _ _)
   | (with_reducible exact impl_PermType.mono _ _)
   | (with_reducible exact laws_eqIntS.mono _ _ _)
   | (with_reducible exact laws_heldIntS.mono _ _ _)
   | (with_reducible exact laws_markIntS.mono _ _ _)
   | (with_reducible exact laws_toIntS.mono _ _)
   | (with_reducible exact spec_PermType.mono _ _)
   | (with_reducible exact LeO.refl _)
   | (with_reducible exact LeO.none _)
   | (with_reducible refine LeO.ite ?_ ?_)
   | (with_reducible refine LeO.bind ?_ (fun _ => ?_))
   | exact ih0 _ _ _ _ _ _ _
   | exact ih1 _ _ _ _ _
   | exact ih2 _ _ _
   | exact impl_PermType.mono _ _
   | exact laws_eqIntS.mono _ _ _
   | exact laws_heldIntS.mono _ _ _
   | exact laws_markIntS.mono _ _ _
   | exact laws_toIntS.mono _ _
   | exact spec_PermType.mono _ _
   | exact LeO.none _
   | refine LeO.ite ?_ ?_
   | refine LeO.bind ?_ (fun _ => ?_)
  ·intro y0 y1 y2
   unfold laws_FnExactPermType.j2
   repeat' first
   | (with_reducible exact ih0 _ _ _ _ _ _ _)
   | (with_reducible exact ih1 _ _ _ _ _)
   | (with_reducible exact ih2 _ _ _)
   | (with_reducible exact impl_PermType.mono _ _)
   | (with_reducible exact laws_eqIntS.mono _ _ _)
   | (with_reducible exact laws_heldIntS.mono _ _ _)
   | (with_reducible exact laws_markIntS.mono _ _ _)
   | (with_reducible exact laws_toIntS.mono _ _)
   | (with_reducible exact spec_PermType.mono _ _)
   | (with_reducible exact LeO.refl _)
   | (with_reducible exact LeO.none _)
   | (with_reducible refine LeO.ite ?_ ?_)
   | (with_reducible refine LeO.bind ?_ (fun _ => ?_))
   | exact ih0 _ _ _ _ _ _ _
   | exact ih1 _ _ _ _ _
   | exact ih2 _ _ _
   | exact impl_PermType.mono _ _
   | exact laws_eqIntS.mono _ _ _
   | exact laws_heldIntS.mono _ _ _
   | exact laws_markIntS.mono _ _ _
   | exact laws_toIntS.mono _ _
   | exact spec_PermType.mono _ _
   | exact LeO.none _
   | refine LeO.ite ?_ ?_
   | refine LeO.bind ?_ (fun _ => ?_)
theorem laws_FnExactPermType.mono : ∀ a0 k, LeO (laws_FnExactPermType.f k a0) (laws_FnExactPermType.f (k + 1) a0) := by
 intro a0 k
 obtain ⟨ih0, ih1, ih2⟩ := laws_FnExactPermType.mono_l k
 unfold laws_FnExactPermType.f
 repeat' first
  | (with_reducible exact ih0 _ _ _ _ _ _ _)
  | (with_reducible exact ih1 _ _ _ _ _)
  | (with_reducible exact ih2 _ _ _)
  | (with_reducible exact impl_PermType.mono _ _)
  | (with_reducible exact laws_eqIntS.mono _ _ _)
  | (with_reducible exact laws_heldIntS.mono _ _ _)
  | (with_reducible exact laws_markIntS.mono _ _ _)
  | (with_reducible exact laws_toIntS.mono _ _)
  | (with_reducible exact spec_PermType.mono _ _)
  | (with_reducible exact LeO.refl _)
  | (with_reducible exact LeO.none _)
  | (with_reducible refine LeO.ite ?_ ?_)
  | (with_reducible refine LeO.bind ?_ (fun _ => ?_))
  | exact ih0 _ _ _ _ _ _ _
  | exact ih1 _ _ _ _ _
  | exact ih2 _ _ _
  | exact impl_PermType.mono _ _
  | exact laws_eqIntS.mono _ _ _
  | exact laws_heldIntS.mono _ _ _
  | exact laws_markIntS.mono _ _ _
  | exact laws_toIntS.mono _ _
  | exact spec_PermType.mono _ _
  | exact LeO.none _
  | refine LeO.ite ?_ ?_
  | refine LeO.bind ?_ (fun _ => ?_)
set_option maxHeartbeats 8000000 in
set_option maxRecDepth 100000 in
theorem laws_FnExactPermType.calls (k : Nat) (A0 : Option Addr) (c0 : Nat) (l0 : List Int) (r : Bool) (w : World) (hr0 : Kd.C (Kd.int .i64) w A0 l0.length l0) (hc0 : l0.length ≤ c0) (hr_ : Aside0 (r = true)) (h : laws_FnExactPermType.f k l0 = some r) :
 Calls Try.prog 3 #[.slice A0 l0.length c0] w fun e w' => e = .returned (.bool r) ∧ Below w.heap.size w w' := by
 have HR0 := Aside0.mk hr0
 have HC0 := Aside0.mk hc0
 clear hr0 hc0
 have HB := Aside0.mk (Below.refl w.heap.size w)
 have H : (if (l0.length : Int) > 1048576 then (some true) else ((laws_toIntS.f k l0).bind fun t309 => ((spec_PermType.f k t309).bind fun bt312 => ((laws_toIntS.f k l0).bind fun t316 => ((impl_PermType.f k t316).bind fun bt319 => ((laws_eqIntS.f k bt319.1 bt312.1).bind fun t323 => (if t323 = true then (laws_FnExactPermType.j0 k l0 bt312.1 bt312.2 t316 bt319.1 bt319.2 (bt319.2 != bt312.2)) else (laws_FnExactPermType.j0 k l0 bt312.1 bt312.2 t316 bt319.1 bt319.2 true)))))))) = some r := h
 clear h
 by_cases c2 : (l0.length : Int) > 1048576
 ·rw [if_pos c2] at H
  have c2b0 : decide (1048576 < (l0.length : Int)) = true := decide_eq_true c2
  have c2b1 : decide (1048576 < l0.length) = true := decide_eq_true (by omega)
  clear c2
  obtain rfl := Option.some.inj H
  go_enter Try.func3, Try.ntmps3
  go_wp2
  go_ret
  exact ⟨eR, bP HB⟩
 ·rw [if_neg c2] at H
  have c2b0 : decide (1048576 < (l0.length : Int)) = false := decide_eq_false c2
  have c2b1 : decide (1048576 < l0.length) = false := decide_eq_false (by omega)
  clear c2
  replace H := Option.bind_eq_some_iff.mp H
  obtain ⟨t309, A30, H⟩ := H
  replace H : ((spec_PermType.f k t309).bind fun bt312 => ((laws_toIntS.f k l0).bind fun t316 => ((impl_PermType.f k t316).bind fun bt319 => ((laws_eqIntS.f k bt319.1 bt312.1).bind fun t323 => (if t323 = true then (laws_FnExactPermType.j0 k l0 bt312.1 bt312.2 t316 bt319.1 bt319.2 (bt319.2 != bt312.2)) else (laws_FnExactPermType.j0 k l0 bt312.1 bt312.2 t316 bt319.1 bt319.2 true)))))) = some r := H
  have A3 := Aside0.mk A30
  clear A30
  replace H := Option.bind_eq_some_iff.mp H
  obtain ⟨⟨t312, t313⟩, A40, H⟩ := H
  replace H : ((laws_toIntS.f k l0).bind fun t316 => ((impl_PermType.f k t316).bind fun bt319 => ((laws_eqIntS.f k bt319.1 t312).bind fun t323 => (if t323 = true then (laws_FnExactPermType.j0 k l0 t312 t313 t316 bt319.1 bt319.2 (bt319.2 != t313)) else (laws_FnExactPermType.j0 k l0 t312 t313 t316 bt319.1 bt319.2 true))))) = some r := H
  have A4 := Aside0.mk A40
  clear A40
  replace H := Option.bind_eq_some_iff.mp H
  obtain ⟨t316, A50, H⟩ := H
  replace H : ((impl_PermType.f k t316).bind fun bt319 => ((laws_eqIntS.f k bt319.1 t312).bind fun t323 => (if t323 = true then (laws_FnExactPermType.j0 k l0 t312 t313 t316 bt319.1 bt319.2 (bt319.2 != t313)) else (laws_FnExactPermType.j0 k l0 t312 t313 t316 bt319.1 bt319.2 true)))) = some r := H
  have A5 := Aside0.mk A50
  clear A50
  replace H := Option.bind_eq_some_iff.mp H
  obtain ⟨⟨t319, t320⟩, A60, H⟩ := H
  replace H : ((laws_eqIntS.f k t319 t312).bind fun t323 => (if t323 = true then (laws_FnExactPermType.j0 k l0 t312 t313 t316 t319 t320 (t320 != t313)) else (laws_FnExactPermType.j0 k l0 t312 t313 t316 t319 t320 true))) = some r := H
  have A6 := Aside0.mk A60
  clear A60
  have HC7 := Aside0.mk H
  clear H
  go_enter Try.func3, Try.ntmps3
  go_upto_region 6 with (first | ((with_reducible refine gate_callee (f := 10) rfl ?_); refine gL (some 18) Try.func10 #[.slice A0 l0.length c0] ?_; (with_reducible refine (laws_toIntS.calls k _ _ l0 t309 _ ?side1 ?side2 A3.out).mono ?_); (case side1 => repeat (first | exact HR0.out | (with_reducible refine Kd.C_alloc ?_ _) | (with_reducible refine Kd.C_drewN ?_ _) | (with_reducible refine Kd.C_drew ?_))); (case side2 => exact HC0.out); rintro e w8 ⟨v310, rfl, ho0, hb⟩; refine ⟨_, rfl, ?_⟩; have HO311 := rL ho0 HB; replace HB := bS HB hb; (try clear hb); (try clear hb2); (try clear hk); (try clear hi); (try clear ho0); obtain ⟨Ao9, co9, eo9⟩ := Kd.R_slice HO311.out; subst eo9) | ((with_reducible refine gate_callee (f := 9) rfl ?_); refine gL (some 19) Try.func9 #[.slice Ao9 t309.length co9] ?_; (with_reducible refine (spec_PermType.calls k _ _ t309 t312 t313 _ ?side1 ?side2 A4.out).mono ?_); (case side1 => exact cP (Kd.R_reads' HO311.out).2.2); (case side2 => exact (Kd.R_reads' HO311.out).2.1); rintro e w10 ⟨v314, rfl, ho0, hb⟩; refine ⟨_, rfl, ?_⟩; have HO315 := Aside0.mk (Kd.R_lower (Kd.R_new' ho0 (Kd.R_lt (rP HO311))) (below_size (bP HB))); replace HO311 := Aside0.mk (Kd.R_elder' (rP HO311) (Kd.R_base ho0) hb); replace HB := bS HB hb; (try clear hb); (try clear hb2); (try clear hk); (try clear hi); (try clear ho0)) | ((with_reducible refine gate_callee (f := 10) rfl ?_); refine gL (some 23) Try.func10 #[.slice A0 l0.length c0] ?_; (with_reducible refine (laws_toIntS.calls k _ _ l0 t316 _ ?side1 ?side2 A5.out).mono ?_); (case side1 => exact cB HR0 HB); (case side2 => exact HC0.out); rintro e w11 ⟨v317, rfl, ho0, hb⟩; refine ⟨_, rfl, ?_⟩; have HO318 := Aside0.mk (Kd.R_lower (Kd.R_new' (Kd.R_new' ho0 (Kd.R_lt (rP HO311))) (Kd.R_lt (rP HO315))) (below_size (bP HB))); replace HO311 := Aside0.mk (Kd.R_elder' (rP HO311) (Kd.R_base ho0) hb); replace HO315 := Aside0.mk (Kd.R_elder' (rP HO315) (Kd.R_base ho0) hb); replace HB := bS HB hb; (try clear hb); (try clear hb2); (try clear hk); (try clear hi); (try clear ho0); obtain ⟨Ao12, co12, eo12⟩ := Kd.R_slice HO318.out; subst eo12) | ((with_reducible refine gate_callee (f := 11) rfl ?_); refine gL (some 26) Try.func11 #[.slice Ao12 t316.length co12] ?_; (with_reducible refine (impl_PermType.calls k _ _ t316 t319 t320 _ ?side1 ?side2 A6.out).mono ?_); (case side1 => exact cP (Kd.R_reads' HO318.out).2.2); (case side2 => exact (Kd.R_reads' HO318.out).2.1); rintro e w13 ⟨v321, rfl, ho0, hb⟩; refine ⟨_, rfl, ?_⟩; have HO322 := Aside0.mk (Kd.R_lower (Kd.R_new' (Kd.R_new' (Kd.R_new' ho0 (Kd.R_lt (rP HO311))) (Kd.R_lt (rP HO315))) (Kd.R_lt (rP HO318))) (below_size (bP HB))); replace HO311 := Aside0.mk (Kd.R_elder' (rP HO311) (Kd.R_base ho0) hb); replace HO315 := Aside0.mk (Kd.R_elder' (rP HO315) (Kd.R_base ho0) hb); replace HO318 := Aside0.mk (Kd.R_elder' (rP HO318) (Kd.R_base ho0) hb); replace HB := bS HB hb; (try clear hb); (try clear hb2); (try clear hk); (try clear hi); (try clear ho0)))
  (try simp only [Act.put, List.setIfInBounds_toArray, List.set_cons_zero, List.set_cons_succ])
  go_cut [37] (fun v37 wc => ∃ (kq : Nat) (x37_6 : Bool), v37 = .bool x37_6 ∧ Aside0 (laws_FnExactPermType.j0 kq l0 t312 t313 t316 t319 t320 x37_6 = some r) ∧ Aside0 (kq ≤ k) ∧ Aside0 (Kd.R (Kd.int .i64) 3 wc w.heap.size (fun k_ => some k_ ≠ ((.slice Ao12 t316.length co12) : Value).ownBlock ∧ some k_ ≠ (v321 : Value).ownBlock) v314 t312) ∧ Aside0 (Kd.R (Kd.int .i64) 3 wc w.heap.size (fun k_ => some k_ ≠ (v314 : Value).ownBlock ∧ some k_ ≠ (v321 : Value).ownBlock) (.slice Ao12 t316.length co12) t316) ∧ Aside0 (Kd.R (Kd.int .i64) 3 wc w.heap.size (fun k_ => some k_ ≠ (v314 : Value).ownBlock ∧ some k_ ≠ ((.slice Ao12 t316.length co12) : Value).ownBlock) v321 t319) ∧ Aside0 (Below w.heap.size w wc))
  case first =>
   have H := HC7.out
   clear HC7
   replace H := Option.bind_eq_some_iff.mp H
   obtain ⟨t323, A140, H⟩ := H
   replace H : (if t323 = true then (laws_FnExactPermType.j0 k l0 t312 t313 t316 t319 t320 (t320 != t313)) else (laws_FnExactPermType.j0 k l0 t312 t313 t316 t319 t320 true)) = some r := H
   have A14 := Aside0.mk A140
   clear A140
   by_cases c15 : t323 = true
   ·subst c15
    have H1 : (laws_FnExactPermType.j0 k l0 t312 t313 t316 t319 t320 (t320 != t313)) = some r := by rw [if_pos rfl] at H; exact H
    clear H
    have H := H1
    clear H1
    have H' := Aside0.mk H
    clear H
    obtain ⟨Ao16, co16, eo16⟩ := Kd.R_slice HO322.out
    subst eo16
    obtain ⟨Ao17, co17, eo17⟩ := Kd.R_slice HO315.out
    subst eo17
    go_wp2_with (first | ((with_reducible refine gate_callee (f := 12) rfl ?_); refine gL (some 31) Try.func12 #[.slice Ao16 t319.length co16, .slice Ao17 t312.length co17] ?_; (with_reducible refine (laws_eqIntS.calls k _ _ t319 _ _ t312 true _ ?side1 ?side2 ?side3 ?side4 A14.out).mono ?_); (case side1 => exact cP (Kd.R_reads' HO322.out).2.2); (case side2 => exact (Kd.R_reads' HO322.out).2.1); (case side3 => exact cP (Kd.R_reads' HO315.out).2.2); (case side4 => exact (Kd.R_reads' HO315.out).2.1); rintro e w' ⟨rfl, ⟨nd, rfl⟩⟩; refine ⟨_, rfl, ?_⟩))
    go_meet
    case rel => exact ⟨_, ((t320 != t313)), eS, H', ⟨by first | omega | exact Nat.le_refl _⟩, ⟨by (with_reducible repeat (first | apply Kd.R_alloc | apply Kd.R_drewN | apply Kd.R_drew)); exact Kd.R_mono HO315.out (fun _ hk => ⟨hk.1.2, hk.2⟩)⟩, ⟨by (with_reducible repeat (first | apply Kd.R_alloc | apply Kd.R_drewN | apply Kd.R_drew)); exact Kd.R_mono HO318.out (fun _ hk => ⟨hk.1.2, hk.2⟩)⟩, ⟨by (with_reducible repeat (first | apply Kd.R_alloc | apply Kd.R_drewN | apply Kd.R_drew)); exact Kd.R_mono HO322.out (fun _ hk => ⟨hk.1.2, hk.2⟩)⟩, ⟨bP HB⟩⟩
   ·replace c15 := Bool.eq_false_iff.mpr c15
    subst c15
    have H1 : (laws_FnExactPermType.j0 k l0 t312 t313 t316 t319 t320 true) = some r := by rw [if_neg (show ¬ (false = true) by decide)] at H; exact H
    clear H
    have H := H1
    clear H1
    have H' := Aside0.mk H
    clear H
    obtain ⟨Ao18, co18, eo18⟩ := Kd.R_slice HO322.out
    subst eo18
    obtain ⟨Ao19, co19, eo19⟩ := Kd.R_slice HO315.out
    subst eo19
    go_wp2_with (first | ((with_reducible refine gate_callee (f := 12) rfl ?_); refine gL (some 31) Try.func12 #[.slice Ao18 t319.length co18, .slice Ao19 t312.length co19] ?_; (with_reducible refine (laws_eqIntS.calls k _ _ t319 _ _ t312 false _ ?side1 ?side2 ?side3 ?side4 A14.out).mono ?_); (case side1 => exact cP (Kd.R_reads' HO322.out).2.2); (case side2 => exact (Kd.R_reads' HO322.out).2.1); (case side3 => exact cP (Kd.R_reads' HO315.out).2.2); (case side4 => exact (Kd.R_reads' HO315.out).2.1); rintro e w' ⟨rfl, ⟨nd, rfl⟩⟩; refine ⟨_, rfl, ?_⟩))
    go_meet
    case rel => exact ⟨_, (true), eS, H', ⟨by first | omega | exact Nat.le_refl _⟩, ⟨by (with_reducible repeat (first | apply Kd.R_alloc | apply Kd.R_drewN | apply Kd.R_drew)); exact Kd.R_mono HO315.out (fun _ hk => ⟨hk.1.2, hk.2⟩)⟩, ⟨by (with_reducible repeat (first | apply Kd.R_alloc | apply Kd.R_drewN | apply Kd.R_drew)); exact Kd.R_mono HO318.out (fun _ hk => ⟨hk.1.2, hk.2⟩)⟩, ⟨by (with_reducible repeat (first | apply Kd.R_alloc | apply Kd.R_drewN | apply Kd.R_drew)); exact Kd.R_mono HO322.out (fun _ hk => ⟨hk.1.2, hk.2⟩)⟩, ⟨bP HB⟩⟩
  case rest =>
   clear HC7
   try clear c1
   try clear c2
   try clear c2b0
   try clear c2b1
   try clear p2
   try clear c3
   try clear c9
   try clear c10
   try clear c11
   try clear c12
   try clear c15
   obtain ⟨kq, x37_6, rfl, HA, HJ6, HO_3, HO_5, HO_6, HB⟩ := hcut
   cases kq with
   | zero => exact absurd HA.out (by simp [laws_FnExactPermType.j0])
   | succ kj6 =>
    have H := HA.out
    clear HA
    simp only [laws_FnExactPermType.j0] at H
    by_cases c20 : x37_6 = true
    ·subst c20
     have H1 : (some false) = some r := by rw [if_pos rfl] at H; exact H
     clear H
     have H := H1
     clear H1
     exact absurd ((Option.some.inj H).trans hr_.out) (by decide)
    ·replace c20 := Bool.eq_false_iff.mpr c20
     subst c20
     have H1 : ((laws_toIntS.f kj6 l0).bind fun t324 => ((laws_eqIntS.f kj6 t316 t324).bind fun t327 => (if t327 = true then ((laws_markIntS.f kj6 t316 1).bind fun bt328 => (if bt328.1 < 0 then (laws_FnExactPermType.j1 kj6 l0 t312 t313 t319 true) else ((laws_eqIntS.f kj6 t319 t312).bind fun t330 => (if t330 = true then (laws_FnExactPermType.j1 kj6 l0 t312 t313 t319 (t320 != t313)) else (laws_FnExactPermType.j1 kj6 l0 t312 t313 t319 true))))) else (some false)))) = some r := by rw [if_neg (show ¬ (false = true) by decide)] at H; exact H
     clear H
     have H := H1
     clear H1
     replace H := Option.bind_eq_some_iff.mp H
     obtain ⟨t324, A210, H⟩ := H
     replace H : ((laws_eqIntS.f kj6 t316 t324).bind fun t327 => (if t327 = true then ((laws_markIntS.f kj6 t316 1).bind fun bt328 => (if bt328.1 < 0 then (laws_FnExactPermType.j1 kj6 l0 t312 t313 t319 true) else ((laws_eqIntS.f kj6 t319 t312).bind fun t330 => (if t330 = true then (laws_FnExactPermType.j1 kj6 l0 t312 t313 t319 (t320 != t313)) else (laws_FnExactPermType.j1 kj6 l0 t312 t313 t319 true))))) else (some false))) = some r := H
     have A21 := Aside0.mk A210
     clear A210
     replace H := Option.bind_eq_some_iff.mp H
     obtain ⟨t327, A220, H⟩ := H
     replace H : (if t327 = true then ((laws_markIntS.f kj6 t316 1).bind fun bt328 => (if bt328.1 < 0 then (laws_FnExactPermType.j1 kj6 l0 t312 t313 t319 true) else ((laws_eqIntS.f kj6 t319 t312).bind fun t330 => (if t330 = true then (laws_FnExactPermType.j1 kj6 l0 t312 t313 t319 (t320 != t313)) else (laws_FnExactPermType.j1 kj6 l0 t312 t313 t319 true))))) else (some false)) = some r := H
     have A22 := Aside0.mk A220
     clear A220
     by_cases c23 : t327 = true
     ·subst c23
      have H1 : ((laws_markIntS.f kj6 t316 1).bind fun bt328 => (if bt328.1 < 0 then (laws_FnExactPermType.j1 kj6 l0 t312 t313 t319 true) else ((laws_eqIntS.f kj6 t319 t312).bind fun t330 => (if t330 = true then (laws_FnExactPermType.j1 kj6 l0 t312 t313 t319 (t320 != t313)) else (laws_FnExactPermType.j1 kj6 l0 t312 t313 t319 true))))) = some r := by rw [if_pos rfl] at H; exact H
      clear H
      have H := H1
      clear H1
      replace H := Option.bind_eq_some_iff.mp H
      obtain ⟨⟨t328, t329⟩, A240, H⟩ := H
      replace H : (if t328 < 0 then (laws_FnExactPermType.j1 kj6 l0 t312 t313 t319 true) else ((laws_eqIntS.f kj6 t319 t312).bind fun t330 => (if t330 = true then (laws_FnExactPermType.j1 kj6 l0 t312 t313 t319 (t320 != t313)) else (laws_FnExactPermType.j1 kj6 l0 t312 t313 t319 true)))) = some r := H
      have A24 := Aside0.mk A240
      clear A240
      have HC25 := Aside0.mk H
      clear H
      go_upto_region 12 with (first | ((with_reducible refine gate_callee (f := 10) rfl ?_); refine gL (some 40) Try.func10 #[.slice A0 l0.length c0] ?_; (with_reducible refine (laws_toIntS.calls kj6 _ _ l0 t324 _ ?side1 ?side2 A21.out).mono ?_); (case side1 => exact cB HR0 HB); (case side2 => exact HC0.out); rintro e w26 ⟨v325, rfl, ho0, hb⟩; refine ⟨_, rfl, ?_⟩; have HO326 := Aside0.mk (Kd.R_lower (Kd.R_new' (Kd.R_new' (Kd.R_new' ho0 (Kd.R_lt (rP HO_3))) (Kd.R_lt (rP HO_5))) (Kd.R_lt (rP HO_6))) (below_size (bP HB))); replace HO_3 := Aside0.mk (Kd.R_elder' (rP HO_3) (Kd.R_base ho0) hb); replace HO_5 := Aside0.mk (Kd.R_elder' (rP HO_5) (Kd.R_base ho0) hb); replace HO_6 := Aside0.mk (Kd.R_elder' (rP HO_6) (Kd.R_base ho0) hb); replace HB := bS HB hb; (try clear hb); (try clear hb2); (try clear hk); (try clear hi); (try clear ho0); obtain ⟨Ao27, co27, eo27⟩ := Kd.R_slice HO326.out; subst eo27) | ((with_reducible refine gate_callee (f := 12) rfl ?_); refine gL (some 41) Try.func12 #[.slice Ao12 t316.length co12, .slice Ao27 t324.length co27] ?_; (with_reducible refine (laws_eqIntS.calls kj6 _ _ t316 _ _ t324 true _ ?side1 ?side2 ?side3 ?side4 A22.out).mono ?_); (case side1 => exact cP (Kd.R_reads' HO_5.out).2.2); (case side2 => exact (Kd.R_reads' HO_5.out).2.1); (case side3 => exact cP (Kd.R_reads' HO326.out).2.2); (case side4 => exact (Kd.R_reads' HO326.out).2.1); rintro e w' ⟨rfl, ⟨nd, rfl⟩⟩; refine ⟨_, rfl, ?_⟩) | ((with_reducible refine gate_callee (f := 13) rfl ?_); refine gL (some 45) Try.func13 #[.slice Ao12 t316.length co12, .int .i64 1] ?_; (with_reducible refine (laws_markIntS.calls kj6 (fun k_ => some k_ = (.slice Ao12 t316.length co12 : Value).ownBlock) (.slice Ao12 t316.length co12) t316 1 t328 t329 w _ ?side1 ?side2 A24.out).mono ?_); (case side1 => exact bP HB); (case side2 => exact Kd.R_tight rfl HO_5.out); rintro e w28 ⟨rfl, hy0, hb, hkp⟩; refine ⟨_, rfl, ?_⟩; replace HO_3 := Aside0.mk (Kd.R_mono (ok' := fun k_ => some k_ ≠ (.slice Ao12 t316.length co12 : Value).ownBlock ∧ some k_ ≠ (v321 : Value).ownBlock ∧ some k_ ≠ (.slice Ao27 t324.length co27 : Value).ownBlock) (Kd.R_keptB (HO_3.out) hkp (fun k_ hk_ hs_ => (hk_.1.1) hs_)) (fun k_ hk_ => ⟨hk_.1.1.1, hk_.1.1.2, hk_.1.2⟩)); replace HO_5 := Aside0.mk (Kd.R_reok rfl hy0 (fun k_ e_ => HO_5.out.1 k_ e_)); replace HO_6 := Aside0.mk (Kd.R_mono (ok' := fun k_ => some k_ ≠ (v314 : Value).ownBlock ∧ some k_ ≠ (.slice Ao12 t316.length co12 : Value).ownBlock ∧ some k_ ≠ (.slice Ao27 t324.length co27 : Value).ownBlock) (Kd.R_keptB (HO_6.out) hkp (fun k_ hk_ hs_ => (hk_.1.2) hs_)) (fun k_ hk_ => ⟨hk_.1.1.1, hk_.1.1.2, hk_.1.2⟩)); replace HO326 := Aside0.mk (Kd.R_mono (ok' := fun k_ => some k_ ≠ (v314 : Value).ownBlock ∧ some k_ ≠ (.slice Ao12 t316.length co12 : Value).ownBlock ∧ some k_ ≠ (v321 : Value).ownBlock) (Kd.R_keptB (HO326.out) hkp (fun k_ hk_ hs_ => (hk_.1.2) hs_)) (fun k_ hk_ => ⟨hk_.1.1.1.2, hk_.1.1.2, hk_.1.2⟩)); replace HB := Aside0.mk (hb); (try clear hb); (try clear hkp); (try clear hy0)))
      (try simp only [Act.put, List.setIfInBounds_toArray, List.set_cons_zero, List.set_cons_succ])
      go_cut [58] (fun v58 wc => ∃ (kq : Nat) (x58_24 : Bool), v58 = .bool x58_24 ∧ Aside0 (laws_FnExactPermType.j1 kq l0 t312 t313 t319 x58_24 = some r) ∧ Aside0 (kq ≤ kj6) ∧ Aside0 (Kd.R (Kd.int .i64) 3 wc w.heap.size (fun k_ => some k_ ≠ (v321 : Value).ownBlock) v314 t312) ∧ Aside0 (Kd.R (Kd.int .i64) 3 wc w.heap.size (fun k_ => some k_ ≠ (v314 : Value).ownBlock) v321 t319) ∧ Aside0 (Below w.heap.size w wc))
      case first =>
       have H := HC25.out
       clear HC25
       by_cases c29 : t328 < 0
       ·rw [if_pos c29] at H
        have c29b0 : decide (t328 < 0) = true := decide_eq_true c29
        clear c29
        (first | rw [c29b0] | (simp only [i64_w, i32_w]; rw [c29b0]) | skip)
        have H' := Aside0.mk H
        clear H
        go_wp2
        go_meet
        case rel => exact ⟨_, (true), eS, H', ⟨by have := HJ6.out; first | omega | exact Nat.le_refl _⟩, ⟨by (with_reducible repeat (first | apply Kd.R_alloc | apply Kd.R_drewN | apply Kd.R_drew)); exact Kd.R_mono HO_3.out (fun _ hk => hk.2.1)⟩, ⟨by (with_reducible repeat (first | apply Kd.R_alloc | apply Kd.R_drewN | apply Kd.R_drew)); exact Kd.R_mono HO_6.out (fun _ hk => hk.1)⟩, ⟨bP HB⟩⟩
       ·rw [if_neg c29] at H
        have c29b0 : decide (t328 < 0) = false := decide_eq_false c29
        clear c29
        (first | rw [c29b0] | (simp only [i64_w, i32_w]; rw [c29b0]) | skip)
        replace H := Option.bind_eq_some_iff.mp H
        obtain ⟨t330, A300, H⟩ := H
        replace H : (if t330 = true then (laws_FnExactPermType.j1 kj6 l0 t312 t313 t319 (t320 != t313)) else (laws_FnExactPermType.j1 kj6 l0 t312 t313 t319 true)) = some r := H
        have A30 := Aside0.mk A300
        clear A300
        by_cases c31 : t330 = true
        ·subst c31
         have H1 : (laws_FnExactPermType.j1 kj6 l0 t312 t313 t319 (t320 != t313)) = some r := by rw [if_pos rfl] at H; exact H
         clear H
         have H := H1
         clear H1
         have H' := Aside0.mk H
         clear H
         obtain ⟨Ao32, co32, eo32⟩ := Kd.R_slice HO_6.out
         subst eo32
         obtain ⟨Ao33, co33, eo33⟩ := Kd.R_slice HO_3.out
         subst eo33
         go_wp2_with (first | (go_at_call 12; (with_reducible refine (laws_eqIntS.calls kj6 _ _ t319 _ _ t312 true _ ?side1 ?side2 ?side3 ?side4 A30.out).mono ?_); (case side1 => exact cP (Kd.R_reads' HO_6.out).2.2); (case side2 => exact (Kd.R_reads' HO_6.out).2.1); (case side3 => exact cP (Kd.R_reads' HO_3.out).2.2); (case side4 => exact (Kd.R_reads' HO_3.out).2.1); rintro e w' ⟨rfl, ⟨nd, rfl⟩⟩))
         go_meet
         case rel => exact ⟨_, ((t320 != t313)), eS, H', ⟨by have := HJ6.out; first | omega | exact Nat.le_refl _⟩, ⟨by (with_reducible repeat (first | apply Kd.R_alloc | apply Kd.R_drewN | apply Kd.R_drew)); exact Kd.R_mono HO_3.out (fun _ hk => hk.2.1)⟩, ⟨by (with_reducible repeat (first | apply Kd.R_alloc | apply Kd.R_drewN | apply Kd.R_drew)); exact Kd.R_mono HO_6.out (fun _ hk => hk.1)⟩, ⟨bP HB⟩⟩
        ·replace c31 := Bool.eq_false_iff.mpr c31
         subst c31
         have H1 : (laws_FnExactPermType.j1 kj6 l0 t312 t313 t319 true) = some r := by rw [if_neg (show ¬ (false = true) by decide)] at H; exact H
         clear H
         have H := H1
         clear H1
         have H' := Aside0.mk H
         clear H
         obtain ⟨Ao34, co34, eo34⟩ := Kd.R_slice HO_6.out
         subst eo34
         obtain ⟨Ao35, co35, eo35⟩ := Kd.R_slice HO_3.out
         subst eo35
         go_wp2_with (first | (go_at_call 12; (with_reducible refine (laws_eqIntS.calls kj6 _ _ t319 _ _ t312 false _ ?side1 ?side2 ?side3 ?side4 A30.out).mono ?_); (case side1 => exact cP (Kd.R_reads' HO_6.out).2.2); (case side2 => exact (Kd.R_reads' HO_6.out).2.1); (case side3 => exact cP (Kd.R_reads' HO_3.out).2.2); (case side4 => exact (Kd.R_reads' HO_3.out).2.1); rintro e w' ⟨rfl, ⟨nd, rfl⟩⟩))
         go_meet
         case rel => exact ⟨_, (true), eS, H', ⟨by have := HJ6.out; first | omega | exact Nat.le_refl _⟩, ⟨by (with_reducible repeat (first | apply Kd.R_alloc | apply Kd.R_drewN | apply Kd.R_drew)); exact Kd.R_mono HO_3.out (fun _ hk => hk.2.1)⟩, ⟨by (with_reducible repeat (first | apply Kd.R_alloc | apply Kd.R_drewN | apply Kd.R_drew)); exact Kd.R_mono HO_6.out (fun _ hk => hk.1)⟩, ⟨bP HB⟩⟩
      case rest =>
       clear HC25
       try clear c1
       try clear c2
       try clear c2b0
       try clear c2b1
       try clear p2
       try clear c3
       try clear c9
       try clear c10
       try clear c11
       try clear c12
       try clear c13
       try clear c15
       try clear c20
       try clear c23
       try clear c29
       try clear c29b0
       try clear c31
       try clear p2
       obtain ⟨kq, x58_24, rfl, HA, HJ24, HO_3, HO_6, HB⟩ := hcut
       cases kq with
       | zero => exact absurd HA.out (by simp [laws_FnExactPermType.j1])
       | succ kj24 =>
        have H := HA.out
        clear HA
        simp only [laws_FnExactPermType.j1] at H
        by_cases c36 : x58_24 = true
        ·subst c36
         have H1 : (some false) = some r := by rw [if_pos rfl] at H; exact H
         clear H
         have H := H1
         clear H1
         exact absurd ((Option.some.inj H).trans hr_.out) (by decide)
        ·replace c36 := Bool.eq_false_iff.mpr c36
         subst c36
         have H1 : ((laws_markIntS.f kj24 t319 1).bind fun bt331 => ((laws_heldIntS.f kj24 bt331.2 1).bind fun t333 => (if t333 < 0 then (some false) else (if t333 = bt331.1 then ((laws_toIntS.f kj24 l0).bind fun t334 => ((impl_PermType.f kj24 t334).bind fun bt337 => ((laws_eqIntS.f kj24 bt337.1 t312).bind fun t341 => (if t341 = true then (laws_FnExactPermType.j2 kj24 bt331.2 bt331.1 (bt337.2 != t313)) else (laws_FnExactPermType.j2 kj24 bt331.2 bt331.1 true))))) else (some false))))) = some r := by rw [if_neg (show ¬ (false = true) by decide)] at H; exact H
         clear H
         have H := H1
         clear H1
         replace H := Option.bind_eq_some_iff.mp H
         obtain ⟨⟨t331, t332⟩, A370, H⟩ := H
         replace H : ((laws_heldIntS.f kj24 t332 1).bind fun t333 => (if t333 < 0 then (some false) else (if t333 = t331 then ((laws_toIntS.f kj24 l0).bind fun t334 => ((impl_PermType.f kj24 t334).bind fun bt337 => ((laws_eqIntS.f kj24 bt337.1 t312).bind fun t341 => (if t341 = true then (laws_FnExactPermType.j2 kj24 t332 t331 (bt337.2 != t313)) else (laws_FnExactPermType.j2 kj24 t332 t331 true))))) else (some false)))) = some r := H
         have A37 := Aside0.mk A370
         clear A370
         replace H := Option.bind_eq_some_iff.mp H
         obtain ⟨t333, A380, H⟩ := H
         replace H : (if t333 < 0 then (some false) else (if t333 = t331 then ((laws_toIntS.f kj24 l0).bind fun t334 => ((impl_PermType.f kj24 t334).bind fun bt337 => ((laws_eqIntS.f kj24 bt337.1 t312).bind fun t341 => (if t341 = true then (laws_FnExactPermType.j2 kj24 t332 t331 (bt337.2 != t313)) else (laws_FnExactPermType.j2 kj24 t332 t331 true))))) else (some false))) = some r := H
         have A38 := Aside0.mk A380
         clear A380
         by_cases c39 : t333 < 0
         ·rw [if_pos c39] at H
          have c39b0 : decide (t333 < 0) = true := decide_eq_true c39
          clear c39
          exact absurd ((Option.some.inj H).trans hr_.out) (by decide)
         ·rw [if_neg c39] at H
          have c39b0 : decide (t333 < 0) = false := decide_eq_false c39
          clear c39
          by_cases c40 : t333 = t331
          ·rw [if_pos c40] at H
           have c40b0 : (t333 == t331) = true := beq_iff_eq.mpr c40
           have c40b1 : (t333 != t331) = false := bne_eq_false_iff_eq.mpr c40
           clear c40
           replace H := Option.bind_eq_some_iff.mp H
           obtain ⟨t334, A410, H⟩ := H
           replace H : ((impl_PermType.f kj24 t334).bind fun bt337 => ((laws_eqIntS.f kj24 bt337.1 t312).bind fun t341 => (if t341 = true then (laws_FnExactPermType.j2 kj24 t332 t331 (bt337.2 != t313)) else (laws_FnExactPermType.j2 kj24 t332 t331 true)))) = some r := H
           have A41 := Aside0.mk A410
           clear A410
           replace H := Option.bind_eq_some_iff.mp H
           obtain ⟨⟨t337, t338⟩, A420, H⟩ := H
           replace H : ((laws_eqIntS.f kj24 t337 t312).bind fun t341 => (if t341 = true then (laws_FnExactPermType.j2 kj24 t332 t331 (t338 != t313)) else (laws_FnExactPermType.j2 kj24 t332 t331 true))) = some r := H
           have A42 := Aside0.mk A420
           clear A420
           have HC43 := Aside0.mk H
           clear H
           obtain ⟨Ao44, co44, eo44⟩ := Kd.R_slice HO_6.out
           subst eo44
           go_upto_region 23 with (first | ((with_reducible refine gate_callee (f := 13) rfl ?_); refine gL (some 61) Try.func13 #[.slice Ao44 t319.length co44, .int .i64 1] ?_; (with_reducible refine (laws_markIntS.calls kj24 (fun k_ => some k_ = (.slice Ao44 t319.length co44 : Value).ownBlock) (.slice Ao44 t319.length co44) t319 1 t331 t332 w _ ?side1 ?side2 A37.out).mono ?_); (case side1 => exact bP HB); (case side2 => exact Kd.R_tight rfl HO_6.out); rintro e w45 ⟨rfl, hy0, hb, hkp⟩; refine ⟨_, rfl, ?_⟩; replace HO_3 := Aside0.mk (Kd.R_mono (ok' := fun k_ => some k_ ≠ (.slice Ao44 t319.length co44 : Value).ownBlock) (Kd.R_keptB (HO_3.out) hkp (fun k_ hk_ hs_ => (hk_) hs_)) (fun k_ hk_ => hk_.1)); replace HO_6 := Aside0.mk (Kd.R_reok rfl hy0 (fun k_ e_ => HO_6.out.1 k_ e_)); replace HB := Aside0.mk (hb); (try clear hb); (try clear hkp); (try clear hy0)) | ((with_reducible refine gate_callee (f := 14) rfl ?_); refine goesL_ (some 64) rfl rfl Try.func14 (by kernel_rfl) rfl #[.slice Ao44 t332.length co44, .int .i64 1] rfl (by (try simp only [List.map_toArray, List.map_cons, List.map_nil]); first | done | (rw [show t332.length = t319.length from (Kd.R_reads' HO_6.out).1.symm] <;> rfl) | rfl | (simp only [List.length_drop, List.length_take]; rfl)) ?_; (with_reducible refine (laws_heldIntS.calls kj24 _ _ t332 1 t333 _ ?side1 ?side2 A38.out).mono ?_); (case side1 => exact cP (Kd.R_reads' HO_6.out).2.2); (case side2 => rw [show t332.length = t319.length from (Kd.R_reads' HO_6.out).1.symm]; exact (Kd.R_reads' HO_6.out).2.1); rintro e w' ⟨rfl, ⟨nd, rfl⟩⟩; refine ⟨_, rfl, ?_⟩) | ((with_reducible refine gate_callee (f := 10) rfl ?_); refine gL (some 72) Try.func10 #[.slice A0 l0.length c0] ?_; (with_reducible refine (laws_toIntS.calls kj24 _ _ l0 t334 _ ?side1 ?side2 A41.out).mono ?_); (case side1 => exact cP (Kd.C_below HR0.out (bP HB))); (case side2 => exact HC0.out); rintro e w46 ⟨v335, rfl, ho0, hb⟩; refine ⟨_, rfl, ?_⟩; have HO336 := Aside0.mk (Kd.R_lower (Kd.R_new' (Kd.R_new' ho0 (Kd.R_lt (rP HO_3))) (Kd.R_lt (rP HO_6))) (below_size (bP HB))); replace HO_3 := Aside0.mk (Kd.R_elder' (rP HO_3) (Kd.R_base ho0) hb); replace HO_6 := Aside0.mk (Kd.R_elder' (rP HO_6) (Kd.R_base ho0) hb); replace HB := bS HB hb; (try clear hb); (try clear hb2); (try clear hk); (try clear hi); (try clear ho0); obtain ⟨Ao47, co47, eo47⟩ := Kd.R_slice HO336.out; subst eo47) | ((with_reducible refine gate_callee (f := 11) rfl ?_); refine gL (some 73) Try.func11 #[.slice Ao47 t334.length co47] ?_; (with_reducible refine (impl_PermType.calls kj24 _ _ t334 t337 t338 _ ?side1 ?side2 A42.out).mono ?_); (case side1 => exact cP (Kd.R_reads' HO336.out).2.2); (case side2 => exact (Kd.R_reads' HO336.out).2.1); rintro e w48 ⟨v339, rfl, ho0, hb⟩; refine ⟨_, rfl, ?_⟩; have HO340 := Aside0.mk (Kd.R_lower (Kd.R_new' (Kd.R_new' (Kd.R_new' ho0 (Kd.R_lt (rP HO_3))) (Kd.R_lt (rP HO_6))) (Kd.R_lt (rP HO336))) (below_size (bP HB))); replace HO_3 := Aside0.mk (Kd.R_elder' (rP HO_3) (Kd.R_base ho0) hb); replace HO_6 := Aside0.mk (Kd.R_elder' (rP HO_6) (Kd.R_base ho0) hb); replace HO336 := Aside0.mk (Kd.R_elder' (rP HO336) (Kd.R_base ho0) hb); replace HB := bS HB hb; (try clear hb); (try clear hb2); (try clear hk); (try clear hi); (try clear ho0)))
           (try simp only [Act.put, List.setIfInBounds_toArray, List.set_cons_zero, List.set_cons_succ])
           go_cut [84] (fun v84 wc => ∃ (kq : Nat) (x84_42 : Bool), v84 = .bool x84_42 ∧ Aside0 (laws_FnExactPermType.j2 kq t332 t331 x84_42 = some r) ∧ Aside0 (kq ≤ kj24) ∧ Aside0 (Kd.R (Kd.int .i64) 3 wc w.heap.size (fun _ => True) (.slice Ao44 t319.length co44) t332) ∧ Aside0 (Below w.heap.size w wc))
           case first =>
            have H := HC43.out
            clear HC43
            replace H := Option.bind_eq_some_iff.mp H
            obtain ⟨t341, A490, H⟩ := H
            replace H : (if t341 = true then (laws_FnExactPermType.j2 kj24 t332 t331 (t338 != t313)) else (laws_FnExactPermType.j2 kj24 t332 t331 true)) = some r := H
            have A49 := Aside0.mk A490
            clear A490
            by_cases c50 : t341 = true
            ·subst c50
             have H1 : (laws_FnExactPermType.j2 kj24 t332 t331 (t338 != t313)) = some r := by rw [if_pos rfl] at H; exact H
             clear H
             have H := H1
             clear H1
             have H' := Aside0.mk H
             clear H
             obtain ⟨Ao51, co51, eo51⟩ := Kd.R_slice HO340.out
             subst eo51
             obtain ⟨Ao52, co52, eo52⟩ := Kd.R_slice HO_3.out
             subst eo52
             go_wp2_with (first | ((with_reducible refine gate_callee (f := 12) rfl ?_); refine gL (some 78) Try.func12 #[.slice Ao51 t337.length co51, .slice Ao52 t312.length co52] ?_; (with_reducible refine (laws_eqIntS.calls kj24 _ _ t337 _ _ t312 true _ ?side1 ?side2 ?side3 ?side4 A49.out).mono ?_); (case side1 => exact cP (Kd.R_reads' HO340.out).2.2); (case side2 => exact (Kd.R_reads' HO340.out).2.1); (case side3 => exact cP (Kd.R_reads' HO_3.out).2.2); (case side4 => exact (Kd.R_reads' HO_3.out).2.1); rintro e w' ⟨rfl, ⟨nd, rfl⟩⟩; refine ⟨_, rfl, ?_⟩))
             go_meet
             case rel => exact ⟨_, ((t338 != t313)), eS, H', ⟨by have := HJ6.out; have := HJ24.out; first | omega | exact Nat.le_refl _⟩, ⟨by (with_reducible repeat (first | apply Kd.R_alloc | apply Kd.R_drewN | apply Kd.R_drew)); exact Kd.R_mono HO_6.out (fun _ hk => trivial)⟩, ⟨bP HB⟩⟩
            ·replace c50 := Bool.eq_false_iff.mpr c50
             subst c50
             have H1 : (laws_FnExactPermType.j2 kj24 t332 t331 true) = some r := by rw [if_neg (show ¬ (false = true) by decide)] at H; exact H
             clear H
             have H := H1
             clear H1
             have H' := Aside0.mk H
             clear H
             obtain ⟨Ao53, co53, eo53⟩ := Kd.R_slice HO340.out
             subst eo53
             obtain ⟨Ao54, co54, eo54⟩ := Kd.R_slice HO_3.out
             subst eo54
             go_wp2_with (first | ((with_reducible refine gate_callee (f := 12) rfl ?_); refine gL (some 78) Try.func12 #[.slice Ao53 t337.length co53, .slice Ao54 t312.length co54] ?_; (with_reducible refine (laws_eqIntS.calls kj24 _ _ t337 _ _ t312 false _ ?side1 ?side2 ?side3 ?side4 A49.out).mono ?_); (case side1 => exact cP (Kd.R_reads' HO340.out).2.2); (case side2 => exact (Kd.R_reads' HO340.out).2.1); (case side3 => exact cP (Kd.R_reads' HO_3.out).2.2); (case side4 => exact (Kd.R_reads' HO_3.out).2.1); rintro e w' ⟨rfl, ⟨nd, rfl⟩⟩; refine ⟨_, rfl, ?_⟩))
             go_meet
             case rel => exact ⟨_, (true), eS, H', ⟨by have := HJ6.out; have := HJ24.out; first | omega | exact Nat.le_refl _⟩, ⟨by (with_reducible repeat (first | apply Kd.R_alloc | apply Kd.R_drewN | apply Kd.R_drew)); exact Kd.R_mono HO_6.out (fun _ hk => trivial)⟩, ⟨bP HB⟩⟩
           case rest =>
            clear HC43
            try clear c1
            try clear c2
            try clear c2b0
            try clear c2b1
            try clear p2
            try clear c3
            try clear c4
            try clear c5
            try clear c9
            try clear c10
            try clear c11
            try clear c12
            try clear c13
            try clear c14
            try clear c15
            try clear c20
            try clear c23
            try clear c29
            try clear c29b0
            try clear c31
            try clear c36
            try clear c39
            try clear c39b0
            try clear c40
            try clear c40b0
            try clear c40b1
            try clear c50
            try clear p2
            obtain ⟨kq, x84_42, rfl, HA, HJ42, HO_6, HB⟩ := hcut
            have hl6_42 := (Kd.R_reads' HO_6.out).1
            rw [hl6_42] at HO_6
            (try simp only [hl6_42])
            cases kq with
            | zero => exact absurd HA.out (by simp [laws_FnExactPermType.j2])
            | succ kj42 =>
             have H := HA.out
             clear HA
             simp only [laws_FnExactPermType.j2] at H
             by_cases c55 : x84_42 = true
             ·subst c55
              have H1 : (some false) = some r := by rw [if_pos rfl] at H; exact H
              clear H
              have H := H1
              clear H1
              exact absurd ((Option.some.inj H).trans hr_.out) (by decide)
             ·replace c55 := Bool.eq_false_iff.mpr c55
              subst c55
              have H1 : ((laws_heldIntS.f kj42 t332 1).bind fun t342 => (if t342 < 0 then (some false) else (if t342 = t331 then (some true) else (some false)))) = some r := by rw [if_neg (show ¬ (false = true) by decide)] at H; exact H
              clear H
              have H := H1
              clear H1
              replace H := Option.bind_eq_some_iff.mp H
              obtain ⟨t342, A560, H⟩ := H
              replace H : (if t342 < 0 then (some false) else (if t342 = t331 then (some true) else (some false))) = some r := H
              have A56 := Aside0.mk A560
              clear A560
              by_cases c57 : t342 < 0
              ·rw [if_pos c57] at H
               have c57b0 : decide (t342 < 0) = true := decide_eq_true c57
               clear c57
               exact absurd ((Option.some.inj H).trans hr_.out) (by decide)
              ·rw [if_neg c57] at H
               have c57b0 : decide (t342 < 0) = false := decide_eq_false c57
               clear c57
               by_cases c58 : t342 = t331
               ·rw [if_pos c58] at H
                have c58b0 : (t342 == t331) = true := beq_iff_eq.mpr c58
                have c58b1 : (t342 != t331) = false := bne_eq_false_iff_eq.mpr c58
                clear c58
                obtain rfl := Option.some.inj H
                go_wp2_with (first | ((with_reducible refine gate_callee (f := 14) rfl ?_); refine gL (some 87) Try.func14 #[.slice Ao44 t332.length co44, .int .i64 1] ?_; (with_reducible refine (laws_heldIntS.calls kj42 _ _ t332 1 t342 _ ?side1 ?side2 A56.out).mono ?_); (case side1 => exact cP (Kd.R_reads' HO_6.out).2.2); (case side2 => exact (Kd.R_reads' HO_6.out).2.1); rintro e w' ⟨rfl, ⟨nd, rfl⟩⟩; refine ⟨_, rfl, ?_⟩))
                go_ret
                exact ⟨eR, bP HB⟩
               ·rw [if_neg c58] at H
                have c58b0 : (t342 == t331) = false := beq_eq_false_iff_ne.mpr c58
                have c58b1 : (t342 != t331) = true := bne_iff_ne.mpr c58
                exact absurd ((Option.some.inj H).trans hr_.out) (by decide)
          ·rw [if_neg c40] at H
           have c40b0 : (t333 == t331) = false := beq_eq_false_iff_ne.mpr c40
           have c40b1 : (t333 != t331) = true := bne_iff_ne.mpr c40
           exact absurd ((Option.some.inj H).trans hr_.out) (by decide)
     ·replace c23 := Bool.eq_false_iff.mpr c23
      subst c23
      have H1 : (some false) = some r := by rw [if_neg (show ¬ (false = true) by decide)] at H; exact H
      clear H
      have H := H1
      clear H1
      exact absurd ((Option.some.inj H).trans hr_.out) (by decide)

/-- THE ONE PURE STATEMENT of laws_FnExactPermType: yours. -/
def laws_FnExactPermType.Pure : Prop := ∀ (l0 : List Int), l0.length ≤ maxLen → l0.length * 8 ≤ 140737488351232 → (∀ x ∈ l0, (Lit.int .i64 x).wf = true) → ∃ k, laws_FnExactPermType.f k l0 = some true
theorem laws_FnExactPermType.walk (P : laws_FnExactPermType.Pure) (a0 : Option Addr) (len0 cap0 : Nat) (z0 : List Int) (w : World) (w0 : (a0 = none ∧ len0 = 0 ∧ cap0 = 0 ∧ z0 = []) ∨ ∃ x, a0 = some x ∧ len0 ≤ cap0 ∧ cap0 ≤ maxLen ∧ z0.length = cap0 ∧ (∀ i, i < z0.length → w.cell? (x.add i) = some (.int .i64 (z0.getD i 0))) ∧ ∀ n ∈ z0, (Lit.int .i64 n).wf = true) (y0 : len0 * 8 ≤ 140737488351232) :
 Calls Try.prog 3 #[.slice a0 len0 cap0] w fun e w' => e = .returned (.bool true) ∧ Below w.heap.size w w' := by
 obtain ⟨l0, rfl, hr0, hm0, hw0, hc0⟩ := ReadsInt.ofRowC w0
 obtain ⟨k, h⟩ := P l0 hm0 y0 hw0
 refine (laws_FnExactPermType.calls k _ _ l0 true w (Kd.C_of_reads (d := (0 : Int)) (h1 := fun _ => rfl) hr0) hc0 ⟨rfl⟩ h).mono ?_
 rintro e w' ⟨rfl, hd⟩
 exact ⟨rfl, hd⟩

end Go.Proofs.Yteffimfifgnleaa.F
