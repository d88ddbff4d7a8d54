/- Contracts: what these Go functions return. -/
import Derived.Test.YtajmkjeiegdpcaaF0
import Derived.Test.YtajmkjeiegdpcaaF14
import Derived.Test.YtajmkjeiegdpcaaF19
import Derived.Test.YtajmkjeiegdpcaaF24
namespace Go.Proofs.Ytajmkjeiegdpcaa.F
open Go.RowKit Go.Proofs.YtajmkjeiegdpcaaW.PrintWords Go.Proofs.YtajmkjeiegdpcaaW.PrintLast Go.Proofs.YtajmkjeiegdpcaaW.PrintMore
attribute [local go_sem] max2_int min2_int max_two min_two max_three min_three max_four min_four
set_option linter.unusedVariables false
set_option linter.unusedSimpArgs false

/-! ### laws_FnExactMapFar: function 5 -/
def laws_FnExactMapFar.f (k : Nat) (l0_0 : List Int) (l0_1 : List Int) (a1 : Int) (a2 : Int) : Option (Bool) := (laws_szMap.f l0_0 l0_1 1048576).bind fun t385 => (if t385 < 0 then (some true) else ((laws_toMap.f k l0_0 l0_1).bind fun bt386 => ((spec_MapFar.f k bt386.1 bt386.2 a1 a2).bind fun t392 => ((laws_toMap.f k l0_0 l0_1).bind fun bt393 => ((impl_MapFar.f k bt393.1 bt393.2 a1 a2).bind fun t400 => (if t400 = t392 then ((laws_toMap.f k l0_0 l0_1).bind fun bt401 => ((laws_eqMap.f k bt393.1 bt393.2 bt401.1 bt401.2).bind fun t407 => (if t407 = true then (some true) else (some false)))) else (some false)))))))
set_option maxHeartbeats 8000000 in
set_option maxRecDepth 100000 in
theorem laws_FnExactMapFar.calls (k : Nat) (A0_0 : Option Addr) (c0_0 : Nat) (l0_0 : List Int) (A0_1 : Option Addr) (c0_1 : Nat) (l0_1 : List Int) (a1 : Int) (a2 : Int) (r : Bool) (w : World) (hr0_0 : Kd.C (Kd.int .i64) w A0_0 l0_0.length l0_0) (hc0_0 : l0_0.length ≤ c0_0) (hr0_1 : Kd.C (Kd.int .i64) w A0_1 l0_1.length l0_1) (hc0_1 : l0_1.length ≤ c0_1) (hr_ : Aside0 (r = true)) (h : laws_FnExactMapFar.f k l0_0 l0_1 a1 a2 = some r) :
 Calls Try.prog 5 #[.agg #[.slice A0_0 l0_0.length c0_0, .slice A0_1 l0_1.length c0_1], .int .i64 a1, .int .i64 a2] w fun e w' => e = .returned (.bool r) ∧ Below w.heap.size w w' := by
 have hu37 := Try.underlying37
 have hu40 := Try.underlying40
 have HR0_0 := Aside0.mk hr0_0
 have HC0_0 := Aside0.mk hc0_0
 clear hr0_0 hc0_0
 have HR0_1 := Aside0.mk hr0_1
 have HC0_1 := Aside0.mk hc0_1
 clear hr0_1 hc0_1
 have HB := Aside0.mk (Below.refl w.heap.size w)
 have H : ((laws_szMap.f l0_0 l0_1 1048576).bind fun t385 => (if t385 < 0 then (some true) else ((laws_toMap.f k l0_0 l0_1).bind fun bt386 => ((spec_MapFar.f k bt386.1 bt386.2 a1 a2).bind fun t392 => ((laws_toMap.f k l0_0 l0_1).bind fun bt393 => ((impl_MapFar.f k bt393.1 bt393.2 a1 a2).bind fun t400 => (if t400 = t392 then ((laws_toMap.f k l0_0 l0_1).bind fun bt401 => ((laws_eqMap.f k bt393.1 bt393.2 bt401.1 bt401.2).bind fun t407 => (if t407 = true then (some true) else (some false)))) else (some false)))))))) = some r := h
 clear h
 replace H := Option.bind_eq_some_iff.mp H
 obtain ⟨t385, A40, H⟩ := H
 replace H : (if t385 < 0 then (some true) else ((laws_toMap.f k l0_0 l0_1).bind fun bt386 => ((spec_MapFar.f k bt386.1 bt386.2 a1 a2).bind fun t392 => ((laws_toMap.f k l0_0 l0_1).bind fun bt393 => ((impl_MapFar.f k bt393.1 bt393.2 a1 a2).bind fun t400 => (if t400 = t392 then ((laws_toMap.f k l0_0 l0_1).bind fun bt401 => ((laws_eqMap.f k bt393.1 bt393.2 bt401.1 bt401.2).bind fun t407 => (if t407 = true then (some true) else (some false)))) else (some false))))))) = some r := H
 have A4 := Aside0.mk A40
 clear A40
 by_cases c5 : t385 < 0
 ·rw [if_pos c5] at H
  have c5b0 : decide (t385 < 0) = true := decide_eq_true c5
  clear c5
  obtain rfl := Option.some.inj H
  go_enter Try.func5, Try.ntmps5
  go_wp2_with (first | ((with_reducible refine gate_dst (N := 3) rfl ?_); refine bE 3 #[.slice A0_0 l0_0.length c0_0, .slice A0_1 l0_1.length c0_1] 37 ?_; intro gb384 hg w6 hbox hb; have BK384 := Aside0.mk (hbox); have GW384 := gS HB hg; have GE384 := gS HB hg; replace HB := bS HB hb; clear hb hbox hg; have hcz7_0 := zc0 BK384; have hcz7_1 := zc1 BK384; have hfz7_0 := blk_frozen BK384.out 0; have hfz7_1 := blk_frozen BK384.out 1) | ((with_reducible refine gate_callee (f := 19) rfl ?_); refine gL (some 13) Try.func19 #[.agg #[.slice A0_0 l0_0.length c0_0, .slice A0_1 l0_1.length c0_1], .int .i64 1048576] ?_; (with_reducible refine (laws_szMap.calls _ _ l0_0 _ _ l0_1 1048576 t385 _ ?side1 ?side2 ?side3 ?side4 A4.out).mono ?_); (case side1 => exact cB HR0_0 HB); (case side2 => exact HC0_0.out); (case side3 => exact cB HR0_1 HB); (case side4 => exact HC0_1.out); rintro e w8 ⟨rfl, hb⟩; refine ⟨_, rfl, ?_⟩; replace BK384 := kB BK384 hb; replace HB := bS HB hb; (try clear hb); (try clear hb2); (try clear hk); (try clear hi)))
  go_ret
  exact ⟨eR, bP HB⟩
 ·rw [if_neg c5] at H
  have c5b0 : decide (t385 < 0) = false := decide_eq_false c5
  clear c5
  replace H := Option.bind_eq_some_iff.mp H
  obtain ⟨⟨t386, t389⟩, A90, H⟩ := H
  replace H : ((spec_MapFar.f k t386 t389 a1 a2).bind fun t392 => ((laws_toMap.f k l0_0 l0_1).bind fun bt393 => ((impl_MapFar.f k bt393.1 bt393.2 a1 a2).bind fun t400 => (if t400 = t392 then ((laws_toMap.f k l0_0 l0_1).bind fun bt401 => ((laws_eqMap.f k bt393.1 bt393.2 bt401.1 bt401.2).bind fun t407 => (if t407 = true then (some true) else (some false)))) else (some false))))) = some r := H
  have A9 := Aside0.mk A90
  clear A90
  replace H := Option.bind_eq_some_iff.mp H
  obtain ⟨t392, A100, H⟩ := H
  replace H : ((laws_toMap.f k l0_0 l0_1).bind fun bt393 => ((impl_MapFar.f k bt393.1 bt393.2 a1 a2).bind fun t400 => (if t400 = t392 then ((laws_toMap.f k l0_0 l0_1).bind fun bt401 => ((laws_eqMap.f k bt393.1 bt393.2 bt401.1 bt401.2).bind fun t407 => (if t407 = true then (some true) else (some false)))) else (some false)))) = some r := H
  have A10 := Aside0.mk A100
  clear A100
  replace H := Option.bind_eq_some_iff.mp H
  obtain ⟨⟨t393, t396⟩, A110, H⟩ := H
  replace H : ((impl_MapFar.f k t393 t396 a1 a2).bind fun t400 => (if t400 = t392 then ((laws_toMap.f k l0_0 l0_1).bind fun bt401 => ((laws_eqMap.f k t393 t396 bt401.1 bt401.2).bind fun t407 => (if t407 = true then (some true) else (some false)))) else (some false))) = some r := H
  have A11 := Aside0.mk A110
  clear A110
  replace H := Option.bind_eq_some_iff.mp H
  obtain ⟨t400, A120, H⟩ := H
  replace H : (if t400 = t392 then ((laws_toMap.f k l0_0 l0_1).bind fun bt401 => ((laws_eqMap.f k t393 t396 bt401.1 bt401.2).bind fun t407 => (if t407 = true then (some true) else (some false)))) else (some false)) = some r := H
  have A12 := Aside0.mk A120
  clear A120
  by_cases c13 : t400 = t392
  ·rw [if_pos c13] at H
   have c13b0 : (t400 == t392) = true := beq_iff_eq.mpr c13
   have c13b1 : (t400 != t392) = false := bne_eq_false_iff_eq.mpr c13
   clear c13
   replace H := Option.bind_eq_some_iff.mp H
   obtain ⟨⟨t401, t404⟩, A140, H⟩ := H
   replace H : ((laws_eqMap.f k t393 t396 t401 t404).bind fun t407 => (if t407 = true then (some true) else (some false))) = some r := H
   have A14 := Aside0.mk A140
   clear A140
   replace H := Option.bind_eq_some_iff.mp H
   obtain ⟨t407, A150, H⟩ := H
   replace H : (if t407 = true then (some true) else (some false)) = some r := H
   have A15 := Aside0.mk A150
   clear A150
   by_cases c16 : t407 = true
   ·subst c16
    have H1 : (some true) = some r := by rw [if_pos rfl] at H; exact H
    clear H
    have H := H1
    clear H1
    obtain rfl := Option.some.inj H
    go_enter Try.func5, Try.ntmps5
    try go_wp2_with (first | ((with_reducible refine gate_dst (N := 3) rfl ?_); refine bE 3 #[.slice A0_0 l0_0.length c0_0, .slice A0_1 l0_1.length c0_1] 37 ?_; intro gb384 hg w17 hbox hb; have BK384 := Aside0.mk (hbox); have GW384 := gS HB hg; have GE384 := gS HB hg; replace HB := bS HB hb; clear hb hbox hg; have hcz18_0 := zc0 BK384; have hcz18_1 := zc1 BK384; have hfz18_0 := blk_frozen BK384.out 0; have hfz18_1 := blk_frozen BK384.out 1) | ((with_reducible refine gate_callee (f := 19) rfl ?_); refine gL (some 13) Try.func19 #[.agg #[.slice A0_0 l0_0.length c0_0, .slice A0_1 l0_1.length c0_1], .int .i64 1048576] ?_; (with_reducible refine (laws_szMap.calls _ _ l0_0 _ _ l0_1 1048576 t385 _ ?side1 ?side2 ?side3 ?side4 A4.out).mono ?_); (case side1 => exact cB HR0_0 HB); (case side2 => exact HC0_0.out); (case side3 => exact cB HR0_1 HB); (case side4 => exact HC0_1.out); rintro e w19 ⟨rfl, hb⟩; refine ⟨_, rfl, ?_⟩; replace BK384 := kB BK384 hb; replace HB := bS HB hb; (try clear hb); (try clear hb2); (try clear hk); (try clear hi); have hcz20_0 := zc0 BK384; have hcz20_1 := zc1 BK384; have hfz20_0 := blk_frozen BK384.out 0; have hfz20_1 := blk_frozen BK384.out 1) | ((with_reducible refine gate_callee (f := 21) rfl ?_); refine gL (some 17) Try.func21 #[.agg #[.slice A0_0 l0_0.length c0_0, .slice A0_1 l0_1.length c0_1]] ?_; (with_reducible refine (laws_toMap.calls k _ _ l0_0 _ _ l0_1 t386 t389 _ ?side1 ?side2 ?side3 ?side4 A9.out).mono ?_); (case side1 => exact cB HR0_0 HB); (case side2 => exact HC0_0.out); (case side3 => exact cB HR0_1 HB); (case side4 => exact HC0_1.out); rintro e w21 ⟨v387, v390, rfl, ho0, ho1, hb⟩; refine ⟨_, rfl, ?_⟩; have HO388 := rL ho0 HB; have HO391 := rL ho1 HB; replace BK384 := kB BK384 hb; replace HB := bS HB hb; (try clear hb); (try clear hb2); (try clear hk); (try clear hi); (try clear ho0); (try clear ho1); obtain ⟨Ao22, co22, eo22⟩ := Kd.R_slice HO388.out; subst eo22; obtain ⟨Ao23, co23, eo23⟩ := Kd.R_slice HO391.out; subst eo23) | ((with_reducible refine gate_callee (f := 20) rfl ?_); refine gL (some 20) Try.func20 #[.agg #[.slice Ao22 t386.length co22, .slice Ao23 t389.length co23], .int .i64 a1, .int .i64 a2] ?_; (with_reducible refine (spec_MapFar.calls k _ _ t386 _ _ t389 a1 a2 t392 _ ?side1 ?side2 ?side3 ?side4 A10.out).mono ?_); (case side1 => exact cP (Kd.R_reads' HO388.out).2.2); (case side2 => exact (Kd.R_reads' HO388.out).2.1); (case side3 => exact cP (Kd.R_reads' HO391.out).2.2); (case side4 => exact (Kd.R_reads' HO391.out).2.1); rintro e w24 ⟨rfl, hb⟩; refine ⟨_, rfl, ?_⟩; replace HO388 := rB HO388 hb; replace HO391 := rB HO391 hb; replace BK384 := kB BK384 hb; replace HB := bS HB hb; (try clear hb); (try clear hb2); (try clear hk); (try clear hi); have hcz25_0 := zc0 BK384; have hcz25_1 := zc1 BK384; have hfz25_0 := blk_frozen BK384.out 0; have hfz25_1 := blk_frozen BK384.out 1) | ((with_reducible refine gate_callee (f := 21) rfl ?_); refine gL (some 22) Try.func21 #[.agg #[.slice A0_0 l0_0.length c0_0, .slice A0_1 l0_1.length c0_1]] ?_; (with_reducible refine (laws_toMap.calls k _ _ l0_0 _ _ l0_1 t393 t396 _ ?side1 ?side2 ?side3 ?side4 A11.out).mono ?_); (case side1 => exact cB HR0_0 HB); (case side2 => exact HC0_0.out); (case side3 => exact cB HR0_1 HB); (case side4 => exact HC0_1.out); rintro e w26 ⟨v394, v397, rfl, ho0, ho1, hb⟩; refine ⟨_, rfl, ?_⟩; have HO395 := Aside0.mk (Kd.R_lower (Kd.R_new' (Kd.R_new' ho0 (Kd.R_lt (rP HO388))) (Kd.R_lt (rP HO391))) (below_size (bP HB))); have HO398 := Aside0.mk (Kd.R_lower (Kd.R_new' (Kd.R_new' ho1 (Kd.R_lt (rP HO388))) (Kd.R_lt (rP HO391))) (below_size (bP HB))); replace HO388 := Aside0.mk (Kd.R_mono (Kd.R_told (Kd.R_told (Kd.R_old (rP HO388) hb) (Kd.R_base ho0)) (Kd.R_base ho1)) (fun _ h_ => h_.1)); replace HO391 := Aside0.mk (Kd.R_mono (Kd.R_told (Kd.R_told (Kd.R_old (rP HO391) hb) (Kd.R_base ho0)) (Kd.R_base ho1)) (fun _ h_ => h_.1)); replace BK384 := kB BK384 hb; replace HB := bS HB hb; (try clear hb); (try clear hb2); (try clear hk); (try clear hi); (try clear ho0); (try clear ho1)) | ((with_reducible refine gate_dst (N := 9) rfl ?_); refine bE 9 #[.slice none 0 0, .slice none 0 0] 40 ?_; intro gb399 hg w27 hbox hb; replace HO388 := rB HO388 hb; replace HO391 := rB HO391 hb; replace HO395 := rB HO395 hb; replace HO398 := rB HO398 hb; have BK399 := Aside0.mk (hbox); have GW399 := gS HB hg; have GE399 := gS HB hg; replace HB := bS HB hb; have NB384_399 := nL BK384 hg; have NB399_384 := nG BK384 hg; replace BK384 := kB BK384 hb; clear hb hbox hg; obtain ⟨Ao28, co28, eo28⟩ := Kd.R_slice HO395.out; subst eo28; have hnb29 := NB399_384.out; have hnc29 := NB384_399.out; have hcz30_0 := zc0 BK399; have hcz30_1 := zc1 BK399; have hfz30_0 := blk_frozen BK399.out 0; have hfz30_1 := blk_frozen BK399.out 1; obtain ⟨Ao31, co31, eo31⟩ := Kd.R_slice HO398.out; subst eo31) | ((with_reducible refine gate_callee (f := 22) rfl ?_); refine gL (some 26) Try.func22 #[.agg #[.slice Ao28 t393.length co28, .slice Ao31 t396.length co31], .int .i64 a1, .int .i64 a2] ?_; (with_reducible refine (impl_MapFar.calls k _ _ t393 _ _ t396 a1 a2 t400 _ ?side1 ?side2 ?side3 ?side4 A12.out).mono ?_); (case side1 => refine (Kd.R_reads' (e := 3) (base := w.heap.size) (ok := fun k_ => ((oN k_ Ao31 t396 co31 ∧ oN k_ Ao22 t386 co22) ∧ oN k_ Ao23 t389 co23)) (n := t393.length) (c := co28) ?_).2.2; exact (rT (Kd.R_mono (Kd.R_far (p := ⟨gb399, 1, none⟩) (Kd.R_far (p := ⟨gb399, 0, none⟩) (Kd.R_types HO395.out BK399.out (by decide)) (fun _ hk => hk.2) (.slice Ao28 t393.length co28)) (fun _ hk => hk.2) (.slice Ao31 t396.length co31)) (fun _ h_ => h_.1)))); (case side2 => exact (Kd.R_reads' HO395.out).2.1); (case side3 => refine (Kd.R_reads' (e := 3) (base := w.heap.size) (ok := fun k_ => ((oN k_ Ao28 t393 co28 ∧ oN k_ Ao22 t386 co22) ∧ oN k_ Ao23 t389 co23)) (n := t396.length) (c := co31) ?_).2.2; exact (rT (Kd.R_mono (Kd.R_far (p := ⟨gb399, 1, none⟩) (Kd.R_far (p := ⟨gb399, 0, none⟩) (Kd.R_types HO398.out BK399.out (by decide)) (fun _ hk => hk.2) (.slice Ao28 t393.length co28)) (fun _ hk => hk.2) (.slice Ao31 t396.length co31)) (fun _ h_ => h_.1)))); (case side4 => exact (Kd.R_reads' HO398.out).2.1); rintro e w32 ⟨rfl, hb⟩; refine ⟨_, rfl, ?_⟩; replace HO388 := Aside0.mk (Kd.R_below (rT (Kd.R_mono (Kd.R_far (p := ⟨gb399, 1, none⟩) (Kd.R_far (p := ⟨gb399, 0, none⟩) (Kd.R_types HO388.out BK399.out (by decide)) (fun _ hk => hk.2) (.slice Ao28 t393.length co28)) (fun _ hk => hk.2) (.slice Ao31 t396.length co31)) (fun _ h_ => h_.1))) hb); replace HO391 := Aside0.mk (Kd.R_below (rT (Kd.R_mono (Kd.R_far (p := ⟨gb399, 1, none⟩) (Kd.R_far (p := ⟨gb399, 0, none⟩) (Kd.R_types HO391.out BK399.out (by decide)) (fun _ hk => hk.2) (.slice Ao28 t393.length co28)) (fun _ hk => hk.2) (.slice Ao31 t396.length co31)) (fun _ h_ => h_.1))) hb); replace HO395 := Aside0.mk (Kd.R_below (rT (Kd.R_mono (Kd.R_far (p := ⟨gb399, 1, none⟩) (Kd.R_far (p := ⟨gb399, 0, none⟩) (Kd.R_types HO395.out BK399.out (by decide)) (fun _ hk => hk.2) (.slice Ao28 t393.length co28)) (fun _ hk => hk.2) (.slice Ao31 t396.length co31)) (fun _ h_ => h_.1))) hb); replace HO398 := Aside0.mk (Kd.R_below (rT (Kd.R_mono (Kd.R_far (p := ⟨gb399, 1, none⟩) (Kd.R_far (p := ⟨gb399, 0, none⟩) (Kd.R_types HO398.out BK399.out (by decide)) (fun _ hk => hk.2) (.slice Ao28 t393.length co28)) (fun _ hk => hk.2) (.slice Ao31 t396.length co31)) (fun _ h_ => h_.1))) hb); replace BK384 := kG BK384 hb; replace BK399 := Aside0.mk (blk_below (g := gb399) (o := .cells #[.slice Ao28 t393.length co28, .slice Ao31 t396.length co31] 40 (0, 0)) (by (with_reducible repeat (first | refine blk_drewN ?_ _ | refine blk_drew ?_ | refine blk_alloc ?_ _)); refine blk_put (cs := #[.slice Ao28 t393.length co28, .slice none 0 0]) ?_ 1 _ rfl; (with_reducible repeat (first | refine blk_drewN ?_ _ | refine blk_drew ?_ | refine blk_alloc ?_ _)); refine blk_put (cs := #[.slice none 0 0, .slice none 0 0]) ?_ 0 _ rfl; (with_reducible repeat (first | refine blk_drewN ?_ _ | refine blk_drew ?_ | refine blk_alloc ?_ _)); exact BK399.out) hb); replace HB := bS HB hb; (try clear hb); (try clear hb2); (try clear hk); (try clear hi)))
    have n0_ := Aside0.mk (Kd.R_drew HO388.out)
    have n1_ := Aside0.mk (Kd.R_drew HO391.out)
    have n2_ := Aside0.mk (Kd.R_drew HO395.out)
    have n3_ := Aside0.mk (Kd.R_drew HO398.out)
    have n4_ := Aside0.mk (blk_drew BK384.out)
    have n5_ := Aside0.mk (blk_drew BK399.out)
    have n6_ := Aside0.mk (below_drew1 HB.out)
    clear HO388
    clear HO391
    clear HO395
    clear HO398
    clear BK384
    clear BK399
    clear HB
    have HO388 := n0_
    have HO391 := n1_
    have HO395 := n2_
    have HO398 := n3_
    have BK384 := n4_
    have BK399 := n5_
    have HB := n6_
    clear n0_ n1_ n2_ n3_ n4_ n5_ n6_
    refine start_ (n := 5) (S := fun w' => w'.cell? ⟨gb399, 0, none⟩ = some (.slice Ao28 t393.length co28) ∧ w'.cell? ⟨gb399, 1, none⟩ = some (.slice Ao31 t396.length co31) ∧ w'.cell? ⟨gb384, 0, none⟩ = some (.slice A0_0 l0_0.length c0_0) ∧ w'.cell? ⟨gb384, 1, none⟩ = some (.slice A0_1 l0_1.length c0_1)) (ds := []) #[false, false, false, false, false] (by kernel_rfl) rfl rfl ⟨(blk_cell BK399.out 0).trans rfl, (blk_cell BK399.out 1).trans rfl, (blk_cell BK384.out 0).trans rfl, (blk_cell BK384.out 1).trans rfl⟩ (fun hHeld => ?_)
    generalize w32.drew = w33 at HO388 HO391 HO395 HO398 BK384 BK399 HB hHeld ⊢
    refine take_ (i := 0) (N := some 30) (v := ?_) (a' := ?_) #[true, false, false, false, false] rfl rfl (by kernel_rfl) (fun _ _ _ h => h) (Or.inl ⟨by rfl, ?_⟩) hHeld ?_ ?_
    rotate_left
    ·rintro w' ⟨s0, s1, s2, s3⟩
     go_simp
     with_reducible rfl
    rotate_left
    ·simp only [Act.put, List.setIfInBounds_toArray, List.set_cons_zero, List.set_cons_succ, i64_w, i32_w]
     rfl
    refine take_ (i := 1) (N := some 31) (v := ?_) (a' := ?_) #[true, true, false, false, false] rfl rfl (by kernel_rfl) (fun _ _ _ h => h) (Or.inl ⟨by rfl, ?_⟩) hHeld ?_ ?_
    rotate_left
    ·rintro w' ⟨s0, s1, s2, s3⟩
     go_simp
     with_reducible rfl
    rotate_left
    ·simp only [Act.put, List.setIfInBounds_toArray, List.set_cons_zero, List.set_cons_succ, i64_w, i32_w]
     rfl
    refine one_ (i := 2) (N := some 32) #[true, true, true, false, false] rfl rfl (by kernel_rfl) (by decide) (fun K hK => ?_)
    refine goes_ Try.func21 (by kernel_rfl) rfl #[.agg #[.slice A0_0 l0_0.length c0_0, .slice A0_1 l0_1.length c0_1]] (by rfl) rfl rfl (by (try simp only [List.map_toArray, List.map_cons, List.map_nil]); first | done | rfl | (simp only [List.length_drop, List.length_take]; rfl)) ?_
    with_reducible refine (laws_toMap.calls k _ _ l0_0 _ _ l0_1 t401 t404 _ ?side1 ?side2 ?side3 ?side4 A14.out).mono ?_
    (case side1 => exact cB HR0_0 HB)
    (case side2 => exact HC0_0.out)
    (case side3 => exact cB HR0_1 HB)
    (case side4 => exact HC0_1.out)
    rintro e w34 ⟨v402, v405, rfl, ho0, ho1, hb⟩
    refine ⟨_, rfl, ?_⟩
    have n0_ := Aside0.mk (Kd.R_mono (Kd.R_told (Kd.R_told (Kd.R_old (rP HO388) hb) (Kd.R_base ho0)) (Kd.R_base ho1)) (fun _ h_ => h_.1))
    have n1_ := Aside0.mk (Kd.R_mono (Kd.R_told (Kd.R_told (Kd.R_old (rP HO391) hb) (Kd.R_base ho0)) (Kd.R_base ho1)) (fun _ h_ => h_.1))
    have n2_ := Aside0.mk (Kd.R_mono (Kd.R_told (Kd.R_told (Kd.R_old (rP HO395) hb) (Kd.R_base ho0)) (Kd.R_base ho1)) (fun _ h_ => h_.1))
    have n3_ := Aside0.mk (Kd.R_mono (Kd.R_told (Kd.R_told (Kd.R_old (rP HO398) hb) (Kd.R_base ho0)) (Kd.R_base ho1)) (fun _ h_ => h_.1))
    have n4_ := Aside0.mk (Kd.R_lower (Kd.R_new' (Kd.R_new' (Kd.R_new' (Kd.R_new' ho0 (Kd.R_lt (rP HO388))) (Kd.R_lt (rP HO391))) (Kd.R_lt (rP HO395))) (Kd.R_lt (rP HO398))) (below_size (bP HB)))
    have n5_ := Aside0.mk (Kd.R_lower (Kd.R_new' (Kd.R_new' (Kd.R_new' (Kd.R_new' ho1 (Kd.R_lt (rP HO388))) (Kd.R_lt (rP HO391))) (Kd.R_lt (rP HO395))) (Kd.R_lt (rP HO398))) (below_size (bP HB)))
    have n6_ := kB BK384 hb
    have n7_ := kB BK399 hb
    have n8_ := bS HB hb
    clear HO388
    clear HO391
    clear HO395
    clear HO398
    clear BK384
    clear BK399
    clear HB
    have HO388 := n0_
    have HO391 := n1_
    have HO395 := n2_
    have HO398 := n3_
    have HO403 := n4_
    have HO406 := n5_
    have BK384 := n6_
    have BK399 := n7_
    have HB := n8_
    clear n0_ n1_ n2_ n3_ n4_ n5_ n6_ n7_ n8_
    (try clear hb)
    (try clear hb2)
    (try clear hk)
    (try clear hi)
    (try clear ho0)
    (try clear ho1)
    obtain ⟨Ao35, co35, eo35⟩ := Kd.R_slice HO403.out
    (first | subst eo35 | (injection eo35 with f1_ f2_ f3_; have f4_ := f1_.symm; have f5_ := f3_.symm; clear f1_ f2_ f3_; subst f4_; subst f5_))
    obtain ⟨Ao36, co36, eo36⟩ := Kd.R_slice HO406.out
    (first | subst eo36 | (injection eo36 with f1_ f2_ f3_; have f4_ := f1_.symm; have f5_ := f3_.symm; clear f1_ f2_ f3_; subst f4_; subst f5_))
    refine hK.out _ _ ⟨(blk_cell BK399.out 0).trans rfl, (blk_cell BK399.out 1).trans rfl, (blk_cell BK384.out 0).trans rfl, (blk_cell BK384.out 1).trans rfl⟩ (fun hHeld => ?_)
    clear hK K
    refine norm_ (a' := ?_) ?_ ?_
    rotate_left
    ·show Act.put _ (some 32) _ = _
     simp only [Act.put, List.setIfInBounds_toArray, List.set_cons_zero, List.set_cons_succ, i64_w, i32_w]
     rfl
    refine one_ (i := 3) (N := some 33) #[true, true, true, true, false] rfl rfl (by kernel_rfl) (by decide) (fun K hK => ?_)
    refine goes_ Try.func23 (by kernel_rfl) rfl #[.agg #[.slice Ao28 t393.length co28, .slice Ao31 t396.length co31], .agg #[.slice Ao35 t401.length co35, .slice Ao36 t404.length co36]] (by rfl) rfl rfl (by (try simp only [List.map_toArray, List.map_cons, List.map_nil]); first | done | rfl | (simp only [List.length_drop, List.length_take]; rfl)) ?_
    with_reducible refine (laws_eqMap.calls k _ _ t393 _ _ t396 _ _ t401 _ _ t404 true _ ?side1 ?side2 ?side3 ?side4 ?side5 ?side6 ?side7 ?side8 A15.out).mono ?_
    (case side1 => exact cP (Kd.R_reads' HO395.out).2.2)
    (case side2 => exact (Kd.R_reads' HO395.out).2.1)
    (case side3 => exact cP (Kd.R_reads' HO398.out).2.2)
    (case side4 => exact (Kd.R_reads' HO398.out).2.1)
    (case side5 => exact cP (Kd.R_reads' HO403.out).2.2)
    (case side6 => exact (Kd.R_reads' HO403.out).2.1)
    (case side7 => exact cP (Kd.R_reads' HO406.out).2.2)
    (case side8 => exact (Kd.R_reads' HO406.out).2.1)
    rintro e w37 ⟨rfl, hb⟩
    refine ⟨_, rfl, ?_⟩
    have n0_ := rB HO388 hb
    have n1_ := rB HO391 hb
    have n2_ := rB HO395 hb
    have n3_ := rB HO398 hb
    have n4_ := rB HO403 hb
    have n5_ := rB HO406 hb
    have n6_ := kB BK384 hb
    have n7_ := kB BK399 hb
    have n8_ := bS HB hb
    clear HO388
    clear HO391
    clear HO395
    clear HO398
    clear HO403
    clear HO406
    clear BK384
    clear BK399
    clear HB
    have HO388 := n0_
    have HO391 := n1_
    have HO395 := n2_
    have HO398 := n3_
    have HO403 := n4_
    have HO406 := n5_
    have BK384 := n6_
    have BK399 := n7_
    have HB := n8_
    clear n0_ n1_ n2_ n3_ n4_ n5_ n6_ n7_ n8_
    (try clear hb)
    (try clear hb2)
    (try clear hk)
    (try clear hi)
    refine hK.out _ _ ⟨(blk_cell BK399.out 0).trans rfl, (blk_cell BK399.out 1).trans rfl, (blk_cell BK384.out 0).trans rfl, (blk_cell BK384.out 1).trans rfl⟩ (fun hHeld => ?_)
    clear hK K
    refine norm_ (a' := ?_) ?_ ?_
    rotate_left
    ·show Act.put _ (some 33) _ = _
     simp only [Act.put, List.setIfInBounds_toArray, List.set_cons_zero, List.set_cons_succ, i64_w, i32_w]
     rfl
    refine pure_ (i := 4) (N := some 34) (v := ?_) (a' := ?_) #[true, true, true, true, true] rfl rfl (by kernel_rfl) (fun _ _ _ h => h) (Or.inl ⟨by rfl, ?_⟩) ?_ ?_
    rotate_left
    ·intro w'
     go_simp
     with_reducible rfl
    rotate_left
    ·simp only [Act.put, List.setIfInBounds_toArray, List.set_cons_zero, List.set_cons_succ, i64_w, i32_w]
     rfl
    refine done_ (by kernel_rfl) ?_
    try go_wp2
    go_ret
    exact ⟨eR, bP HB⟩
   ·replace c16 := Bool.eq_false_iff.mpr c16
    subst c16
    have H1 : (some false) = some r := by rw [if_neg (show ¬ (false = true) by decide)] at H; exact H
    clear H
    have H := H1
    clear H1
    exact absurd ((Option.some.inj H).trans hr_.out) (by decide)
  ·rw [if_neg c13] at H
   have c13b0 : (t400 == t392) = false := beq_eq_false_iff_ne.mpr c13
   have c13b1 : (t400 != t392) = true := bne_iff_ne.mpr c13
   exact absurd ((Option.some.inj H).trans hr_.out) (by decide)

end Go.Proofs.Ytajmkjeiegdpcaa.F
