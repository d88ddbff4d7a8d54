/- Contracts: what these Go functions return. -/
import Derived.Test.YtihabnfccgjfbaaF0
import Derived.Test.YtihabnfccgjfbaaF8
import Derived.Test.YtihabnfccgjfbaaF12
import Derived.Test.YtihabnfccgjfbaaF13
import Derived.Test.YtihabnfccgjfbaaF14
import Derived.Test.YtihabnfccgjfbaaF16
import Derived.Test.YtihabnfccgjfbaaF17
namespace Go.Proofs.Ytihabnfccgjfbaa.F
open Go.RowKit Go.Proofs.YtihabnfccgjfbaaW.PrintWords Go.Proofs.YtihabnfccgjfbaaW.PrintLast Go.Proofs.YtihabnfccgjfbaaW.PrintMore
attribute [local go_sem] max2_int min2_int max_two min_two max_three min_three max_four min_four
set_option linter.unusedVariables false
set_option linter.unusedSimpArgs false

/-! ### laws_FnFaces: function 3 -/
mutual
def laws_FnFaces.j0 : Nat → List Int → Bool → List Int → Bool → Bool → List Int → List Int → Option (Bool)
 | 0, _, _, _, _, _, _, _ => none
 | k + 1, x4, x5, x6, x7, x44, x312000, x312001 => if x44 = true then (if (x5 == x7) = true then ((laws_sameInts.f k x4 x6).bind fun t321 => (some t321)) else (some false)) else ((impl_MapCounts.f k x312000 x312001).bind fun bt322 => ((impl_PermCycles.f k x4).bind fun bt326 => ((impl_PermCycles.f k x312000).bind fun bt330 => (laws_FnFaces.l0 k x4 bt322.1 bt322.2 bt326.1 bt326.2 bt330.1 bt330.2 0 x312000 x312001))))
def laws_FnFaces.l0 : Nat → List Int → List Int → Bool → List (List Int) → Bool → List (List Int) → Bool → Int → List Int → List Int → Option (Bool)
 | 0, _, _, _, _, _, _, _, _, _, _ => none
 | k + 1, x4, x8, x9, x10, x11, x12, x13, x14, x312000, x312001 => if x14 < (x4.length : Int) then (laws_FnFaces.l1 k x4 x8 x9 x10 x11 x12 x13 x14 false 0 x312000 x312001) else (if x9 = true then (if x11 = true then (if x13 = true then (if 2 < (x8.length : Int) then (some ((x10.length : Int) == (rd x8 2))) else (none)) else (some false)) else (some false)) else (some false))
def laws_FnFaces.l1 : Nat → List Int → List Int → Bool → List (List Int) → Bool → List (List Int) → Bool → Int → Bool → Int → List Int → List Int → Option (Bool)
 | 0, _, _, _, _, _, _, _, _, _, _, _, _ => none
 | k + 1, x4, x8, x9, x10, x11, x12, x13, x14, x15, x16, x312000, x312001 => if x16 < (x12.length : Int) then (if x15 = true then (laws_FnFaces.l1 k x4 x8 x9 x10 x11 x12 x13 x14 true (wrap64 (x16 + 1)) x312000 x312001) else (if 0 ≤ x16 then (if 0 ≤ x14 then (if x14 < (x4.length : Int) then ((laws_hasInt.f k (rd_L1 x12 x16) (rd x4 x14)).bind fun t337 => (if t337 = true then (if x14 < (x312001.length : Int) then ((laws_hasInt.f k (rd_L1 x12 x16) (rd x312001 x14)).bind fun t340 => (laws_FnFaces.l1 k x4 x8 x9 x10 x11 x12 x13 x14 t340 (wrap64 (x16 + 1)) x312000 x312001)) else (none)) else (laws_FnFaces.l1 k x4 x8 x9 x10 x11 x12 x13 x14 false (wrap64 (x16 + 1)) x312000 x312001))) else (none)) else (none)) else (none))) else (if x15 = true then (laws_FnFaces.l0 k x4 x8 x9 x10 x11 x12 x13 (wrap64 (x14 + 1)) x312000 x312001) else (some false))
end
def laws_FnFaces.f (k : Nat) (l0 : List Int) : Option (Bool) := if (l0.length : Int) > 1048576 then (some true) else ((spec_DrawMapFaces.f k l0).bind fun bt305 => ((impl_MapFaces.f k bt305.1 bt305.2).bind fun bt312 => ((spec_MapFaces.f k bt305.1 bt305.2).bind fun bt316 => (if (bt312.2 != bt316.2) = true then (laws_FnFaces.j0 k bt312.1 bt312.2 bt316.1 bt316.2 true bt305.1 bt305.2) else ((laws_sameInts.f k bt312.1 bt316.1).bind fun t320 => (if t320 = true then (laws_FnFaces.j0 k bt312.1 bt312.2 bt316.1 bt316.2 (!bt312.2) bt305.1 bt305.2) else (laws_FnFaces.j0 k bt312.1 bt312.2 bt316.1 bt316.2 true bt305.1 bt305.2)))))))
set_option maxHeartbeats 8000000 in
set_option maxRecDepth 100000 in
theorem laws_FnFaces.calls (k : Nat) (A0 : Option Addr) (c0 : Nat) (l0 : List Int) (r : Bool) (w : World) (hr0 : Kd.C (Kd.int .u8) w A0 l0.length l0) (hc0 : l0.length ≤ c0) (hr_ : Aside0 (r = true)) (h : laws_FnFaces.f k l0 = some r) :
 Calls Try.prog 3 #[.slice A0 l0.length c0] w fun e w' => e = .returned (.bool r) ∧ Below w.heap.size w w' := by
 have hu25 := Try.underlying25
 have HR0 := Aside0.mk hr0
 have HC0 := Aside0.mk hc0
 clear hr0 hc0
 have HB := Aside0.mk (Below.refl w.heap.size w)
 have H : (if (l0.length : Int) > 1048576 then (some true) else ((spec_DrawMapFaces.f k l0).bind fun bt305 => ((impl_MapFaces.f k bt305.1 bt305.2).bind fun bt312 => ((spec_MapFaces.f k bt305.1 bt305.2).bind fun bt316 => (if (bt312.2 != bt316.2) = true then (laws_FnFaces.j0 k bt312.1 bt312.2 bt316.1 bt316.2 true bt305.1 bt305.2) else ((laws_sameInts.f k bt312.1 bt316.1).bind fun t320 => (if t320 = true then (laws_FnFaces.j0 k bt312.1 bt312.2 bt316.1 bt316.2 (!bt312.2) bt305.1 bt305.2) else (laws_FnFaces.j0 k bt312.1 bt312.2 bt316.1 bt316.2 true bt305.1 bt305.2)))))))) = some r := h
 clear h
 by_cases c2 : (l0.length : Int) > 1048576
 ·rw [if_pos c2] at H
  have c2b0 : decide (1048576 < (l0.length : Int)) = true := decide_eq_true c2
  have c2b1 : decide (1048576 < l0.length) = true := decide_eq_true (by omega)
  clear c2
  obtain rfl := Option.some.inj H
  go_enter Try.func3, Try.ntmps3
  go_wp2
  repeat (go_quiet (fail); try go_wp2)
  go_ret
  exact ⟨eR, bP HB⟩
 ·rw [if_neg c2] at H
  have c2b0 : decide (1048576 < (l0.length : Int)) = false := decide_eq_false c2
  have c2b1 : decide (1048576 < l0.length) = false := decide_eq_false (by omega)
  clear c2
  replace H := Option.bind_eq_some_iff.mp H
  obtain ⟨⟨t305, t308⟩, A30, H⟩ := H
  replace H : ((impl_MapFaces.f k t305 t308).bind fun bt312 => ((spec_MapFaces.f k t305 t308).bind fun bt316 => (if (bt312.2 != bt316.2) = true then (laws_FnFaces.j0 k bt312.1 bt312.2 bt316.1 bt316.2 true t305 t308) else ((laws_sameInts.f k bt312.1 bt316.1).bind fun t320 => (if t320 = true then (laws_FnFaces.j0 k bt312.1 bt312.2 bt316.1 bt316.2 (!bt312.2) t305 t308) else (laws_FnFaces.j0 k bt312.1 bt312.2 bt316.1 bt316.2 true t305 t308)))))) = some r := H
  have A3 := Aside0.mk A30
  clear A30
  replace H := Option.bind_eq_some_iff.mp H
  obtain ⟨⟨t312, t315⟩, A40, H⟩ := H
  replace H : ((spec_MapFaces.f k t305 t308).bind fun bt316 => (if (t315 != bt316.2) = true then (laws_FnFaces.j0 k t312 t315 bt316.1 bt316.2 true t305 t308) else ((laws_sameInts.f k t312 bt316.1).bind fun t320 => (if t320 = true then (laws_FnFaces.j0 k t312 t315 bt316.1 bt316.2 (!t315) t305 t308) else (laws_FnFaces.j0 k t312 t315 bt316.1 bt316.2 true t305 t308))))) = some r := H
  have A4 := Aside0.mk A40
  clear A40
  replace H := Option.bind_eq_some_iff.mp H
  obtain ⟨⟨t316, t319⟩, A50, H⟩ := H
  replace H : (if (t315 != t319) = true then (laws_FnFaces.j0 k t312 t315 t316 t319 true t305 t308) else ((laws_sameInts.f k t312 t316).bind fun t320 => (if t320 = true then (laws_FnFaces.j0 k t312 t315 t316 t319 (!t315) t305 t308) else (laws_FnFaces.j0 k t312 t315 t316 t319 true t305 t308)))) = some r := H
  have A5 := Aside0.mk A50
  clear A50
  have HC6 := Aside0.mk H
  clear H
  go_enter Try.func3, Try.ntmps3
  go_upto_region 6 with (first | (go_at_call 9; (with_reducible refine (spec_DrawMapFaces.calls k _ _ l0 t305 t308 _ ?side1 ?side2 A3.out).mono ?_); (case side1 => repeat (first | exact HR0.out | (with_reducible refine Kd.C_alloc ?_ _) | (with_reducible refine Kd.C_drewN ?_ _) | (with_reducible refine Kd.C_drew ?_))); (case side2 => exact HC0.out); rintro e w7 ⟨v306, v309, rfl, ho0, ho1, hb⟩; have HO307 := Aside0.mk (Kd.Q_lower ho0 (below_size (bP HB))); have HO310 := rL ho1 HB; replace HB := bS HB hb; (try clear hb); (try clear hb2); (try clear hk); (try clear hi); (try clear ho0); (try clear ho1)) | ((with_reducible refine gate_dst (N := 3) rfl ?_); (try (refine gate_guard (by rfl) ?_; dsimp only)); refine bE 3 #[.slice none 0 0, .slice none 0 0] 25 ?_; intro gb311 hg w8 hbox hb; replace HO307 := Aside0.mk (Kd.Q_below (by (with_reducible repeat (first | apply Kd.Q_alloc | apply Kd.Q_drewN | apply Kd.Q_drew)); exact HO307.out) hb); replace HO310 := rB HO310 hb; have BK311 := Aside0.mk (hbox); have GW311 := gS HB hg; have GE311 := gS HB hg; replace HB := bS HB hb; clear hb hbox hg; obtain ⟨Ao9, co9, eo9, _⟩ := Kd.Q_slice HO307.out; subst eo9; have hcz10_0 := zc0 BK311; have hcz10_1 := zc1 BK311; have hfz10_0 := blk_frozen BK311.out 0; have hfz10_1 := blk_frozen BK311.out 1; obtain ⟨Ao11, co11, eo11⟩ := Kd.R_slice HO310.out; subst eo11) | (go_at_call 10; (with_reducible refine (impl_MapFaces.calls k _ _ t305 _ _ t308 t312 t315 _ ?side1 ?side2 ?side3 ?side4 A4.out).mono ?_); (case side1 => refine (Kd.Q_reads' (e := 3) (base := w.heap.size) (ok := fun k_ => oN k_ Ao11 t308 co11) (n := t305.length) (c := co9) ?_).2.2; exact (by (with_reducible repeat (first | apply Kd.Q_alloc | apply Kd.Q_drewN | apply Kd.Q_drew)); exact (Kd.Q_mono (Kd.Q_far (p := ⟨gb311, 1, none⟩) (Kd.Q_far (p := ⟨gb311, 0, none⟩) (Kd.Q_types HO307.out BK311.out (by decide)) (fun _ hk => hk.2) (.slice Ao9 t305.length co9)) (fun _ hk => hk.2) (.slice Ao11 t308.length co11)) (fun _ h_ => h_.1)))); (case side2 => exact (Kd.Q_reads' HO307.out).2.1); (case side3 => refine (Kd.R_reads' (e := 3) (base := w.heap.size) (ok := fun k_ => oN k_ Ao9 t305 co9) (n := t308.length) (c := co11) ?_).2.2; exact (rT (Kd.R_mono (Kd.R_far (p := ⟨gb311, 1, none⟩) (Kd.R_far (p := ⟨gb311, 0, none⟩) (Kd.R_types HO310.out BK311.out (by decide)) (fun _ hk => hk.2) (.slice Ao9 t305.length co9)) (fun _ hk => hk.2) (.slice Ao11 t308.length co11)) (fun _ h_ => h_.1)))); (case side4 => exact (Kd.R_reads' HO310.out).2.1); rintro e w12 ⟨v313, rfl, ho0, hb⟩; have HO314 := Aside0.mk (Kd.R_lower (Kd.R_new' (Kd.R_new' ho0 (Kd.Q_lt (by (with_reducible repeat (first | apply Kd.Q_alloc | apply Kd.Q_drewN | apply Kd.Q_drew)); exact (Kd.Q_mono (Kd.Q_far (p := ⟨gb311, 1, none⟩) (Kd.Q_far (p := ⟨gb311, 0, none⟩) (Kd.Q_types HO307.out BK311.out (by decide)) (fun _ hk => hk.2) (.slice Ao9 t305.length co9)) (fun _ hk => hk.2) (.slice Ao11 t308.length co11)) (fun _ h_ => h_.1))))) (Kd.R_lt (rT (Kd.R_mono (Kd.R_far (p := ⟨gb311, 1, none⟩) (Kd.R_far (p := ⟨gb311, 0, none⟩) (Kd.R_types HO310.out BK311.out (by decide)) (fun _ hk => hk.2) (.slice Ao9 t305.length co9)) (fun _ hk => hk.2) (.slice Ao11 t308.length co11)) (fun _ h_ => h_.1))))) (below_size (bP HB))); replace HO307 := Aside0.mk (Kd.Q_elder' (by (with_reducible repeat (first | apply Kd.Q_alloc | apply Kd.Q_drewN | apply Kd.Q_drew)); exact (Kd.Q_mono (Kd.Q_far (p := ⟨gb311, 1, none⟩) (Kd.Q_far (p := ⟨gb311, 0, none⟩) (Kd.Q_types HO307.out BK311.out (by decide)) (fun _ hk => hk.2) (.slice Ao9 t305.length co9)) (fun _ hk => hk.2) (.slice Ao11 t308.length co11)) (fun _ h_ => h_.1))) (Kd.R_base ho0) hb); replace HO310 := Aside0.mk (Kd.R_elder' (rT (Kd.R_mono (Kd.R_far (p := ⟨gb311, 1, none⟩) (Kd.R_far (p := ⟨gb311, 0, none⟩) (Kd.R_types HO310.out BK311.out (by decide)) (fun _ hk => hk.2) (.slice Ao9 t305.length co9)) (fun _ hk => hk.2) (.slice Ao11 t308.length co11)) (fun _ h_ => h_.1))) (Kd.R_base ho0) hb); replace BK311 := Aside0.mk (blk_below (g := gb311) (o := .cells #[.slice Ao9 t305.length co9, .slice Ao11 t308.length co11] 25 (0, 0)) (by (with_reducible repeat (first | refine blk_drewN ?_ _ | refine blk_drew ?_ | refine blk_alloc ?_ _)); refine blk_put (cs := #[.slice Ao9 t305.length co9, .slice none 0 0]) ?_ 1 _ rfl; (with_reducible repeat (first | refine blk_drewN ?_ _ | refine blk_drew ?_ | refine blk_alloc ?_ _)); refine blk_put (cs := #[.slice none 0 0, .slice none 0 0]) ?_ 0 _ rfl; (with_reducible repeat (first | refine blk_drewN ?_ _ | refine blk_drew ?_ | refine blk_alloc ?_ _)); exact BK311.out) hb); replace HB := bS HB hb; (try clear hb); (try clear hb2); (try clear hk); (try clear hi); (try clear ho0); have hcz13_0 := zc0 BK311; have hcz13_1 := zc1 BK311; have hfz13_0 := blk_frozen BK311.out 0; have hfz13_1 := blk_frozen BK311.out 1) | (go_at_call 11; (with_reducible refine (spec_MapFaces.calls k _ _ t305 _ _ t308 t316 t319 _ ?side1 ?side2 ?side3 ?side4 A5.out).mono ?_); (case side1 => exact cP (Kd.Q_reads' HO307.out).2.2); (case side2 => exact (Kd.Q_reads' HO307.out).2.1); (case side3 => exact cP (Kd.R_reads' HO310.out).2.2); (case side4 => exact (Kd.R_reads' HO310.out).2.1); rintro e w14 ⟨v317, rfl, ho0, hb⟩; have HO318 := Aside0.mk (Kd.R_lower (Kd.R_new' (Kd.R_new' (Kd.R_new' ho0 (Kd.Q_lt (by (with_reducible repeat (first | apply Kd.Q_alloc | apply Kd.Q_drewN | apply Kd.Q_drew)); exact HO307.out))) (Kd.R_lt (rP HO310))) (Kd.R_lt (rP HO314))) (below_size (bP HB))); replace HO307 := Aside0.mk (Kd.Q_elder' (by (with_reducible repeat (first | apply Kd.Q_alloc | apply Kd.Q_drewN | apply Kd.Q_drew)); exact HO307.out) (Kd.R_base ho0) hb); replace HO310 := Aside0.mk (Kd.R_elder' (rP HO310) (Kd.R_base ho0) hb); replace HO314 := Aside0.mk (Kd.R_elder' (rP HO314) (Kd.R_base ho0) hb); replace BK311 := kB BK311 hb; replace HB := bS HB hb; (try clear hb); (try clear hb2); (try clear hk); (try clear hi); (try clear ho0)))
  repeat (go_quiet (first | (go_at_call 9; (with_reducible refine (spec_DrawMapFaces.calls k _ _ l0 t305 t308 _ ?side1 ?side2 A3.out).mono ?_); (case side1 => repeat (first | exact HR0.out | (with_reducible refine Kd.C_alloc ?_ _) | (with_reducible refine Kd.C_drewN ?_ _) | (with_reducible refine Kd.C_drew ?_))); (case side2 => exact HC0.out); rintro e w7 ⟨v306, v309, rfl, ho0, ho1, hb⟩; have HO307 := Aside0.mk (Kd.Q_lower ho0 (below_size (bP HB))); have HO310 := rL ho1 HB; replace HB := bS HB hb; (try clear hb); (try clear hb2); (try clear hk); (try clear hi); (try clear ho0); (try clear ho1)) | ((with_reducible refine gate_dst (N := 3) rfl ?_); (try (refine gate_guard (by rfl) ?_; dsimp only)); refine bE 3 #[.slice none 0 0, .slice none 0 0] 25 ?_; intro gb311 hg w8 hbox hb; replace HO307 := Aside0.mk (Kd.Q_below (by (with_reducible repeat (first | apply Kd.Q_alloc | apply Kd.Q_drewN | apply Kd.Q_drew)); exact HO307.out) hb); replace HO310 := rB HO310 hb; have BK311 := Aside0.mk (hbox); have GW311 := gS HB hg; have GE311 := gS HB hg; replace HB := bS HB hb; clear hb hbox hg; obtain ⟨Ao9, co9, eo9, _⟩ := Kd.Q_slice HO307.out; subst eo9; have hcz10_0 := zc0 BK311; have hcz10_1 := zc1 BK311; have hfz10_0 := blk_frozen BK311.out 0; have hfz10_1 := blk_frozen BK311.out 1; obtain ⟨Ao11, co11, eo11⟩ := Kd.R_slice HO310.out; subst eo11) | (go_at_call 10; (with_reducible refine (impl_MapFaces.calls k _ _ t305 _ _ t308 t312 t315 _ ?side1 ?side2 ?side3 ?side4 A4.out).mono ?_); (case side1 => refine (Kd.Q_reads' (e := 3) (base := w.heap.size) (ok := fun k_ => oN k_ Ao11 t308 co11) (n := t305.length) (c := co9) ?_).2.2; exact (by (with_reducible repeat (first | apply Kd.Q_alloc | apply Kd.Q_drewN | apply Kd.Q_drew)); exact (Kd.Q_mono (Kd.Q_far (p := ⟨gb311, 1, none⟩) (Kd.Q_far (p := ⟨gb311, 0, none⟩) (Kd.Q_types HO307.out BK311.out (by decide)) (fun _ hk => hk.2) (.slice Ao9 t305.length co9)) (fun _ hk => hk.2) (.slice Ao11 t308.length co11)) (fun _ h_ => h_.1)))); (case side2 => exact (Kd.Q_reads' HO307.out).2.1); (case side3 => refine (Kd.R_reads' (e := 3) (base := w.heap.size) (ok := fun k_ => oN k_ Ao9 t305 co9) (n := t308.length) (c := co11) ?_).2.2; exact (rT (Kd.R_mono (Kd.R_far (p := ⟨gb311, 1, none⟩) (Kd.R_far (p := ⟨gb311, 0, none⟩) (Kd.R_types HO310.out BK311.out (by decide)) (fun _ hk => hk.2) (.slice Ao9 t305.length co9)) (fun _ hk => hk.2) (.slice Ao11 t308.length co11)) (fun _ h_ => h_.1)))); (case side4 => exact (Kd.R_reads' HO310.out).2.1); rintro e w12 ⟨v313, rfl, ho0, hb⟩; have HO314 := Aside0.mk (Kd.R_lower (Kd.R_new' (Kd.R_new' ho0 (Kd.Q_lt (by (with_reducible repeat (first | apply Kd.Q_alloc | apply Kd.Q_drewN | apply Kd.Q_drew)); exact (Kd.Q_mono (Kd.Q_far (p := ⟨gb311, 1, none⟩) (Kd.Q_far (p := ⟨gb311, 0, none⟩) (Kd.Q_types HO307.out BK311.out (by decide)) (fun _ hk => hk.2) (.slice Ao9 t305.length co9)) (fun _ hk => hk.2) (.slice Ao11 t308.length co11)) (fun _ h_ => h_.1))))) (Kd.R_lt (rT (Kd.R_mono (Kd.R_far (p := ⟨gb311, 1, none⟩) (Kd.R_far (p := ⟨gb311, 0, none⟩) (Kd.R_types HO310.out BK311.out (by decide)) (fun _ hk => hk.2) (.slice Ao9 t305.length co9)) (fun _ hk => hk.2) (.slice Ao11 t308.length co11)) (fun _ h_ => h_.1))))) (below_size (bP HB))); replace HO307 := Aside0.mk (Kd.Q_elder' (by (with_reducible repeat (first | apply Kd.Q_alloc | apply Kd.Q_drewN | apply Kd.Q_drew)); exact (Kd.Q_mono (Kd.Q_far (p := ⟨gb311, 1, none⟩) (Kd.Q_far (p := ⟨gb311, 0, none⟩) (Kd.Q_types HO307.out BK311.out (by decide)) (fun _ hk => hk.2) (.slice Ao9 t305.length co9)) (fun _ hk => hk.2) (.slice Ao11 t308.length co11)) (fun _ h_ => h_.1))) (Kd.R_base ho0) hb); replace HO310 := Aside0.mk (Kd.R_elder' (rT (Kd.R_mono (Kd.R_far (p := ⟨gb311, 1, none⟩) (Kd.R_far (p := ⟨gb311, 0, none⟩) (Kd.R_types HO310.out BK311.out (by decide)) (fun _ hk => hk.2) (.slice Ao9 t305.length co9)) (fun _ hk => hk.2) (.slice Ao11 t308.length co11)) (fun _ h_ => h_.1))) (Kd.R_base ho0) hb); replace BK311 := Aside0.mk (blk_below (g := gb311) (o := .cells #[.slice Ao9 t305.length co9, .slice Ao11 t308.length co11] 25 (0, 0)) (by (with_reducible repeat (first | refine blk_drewN ?_ _ | refine blk_drew ?_ | refine blk_alloc ?_ _)); refine blk_put (cs := #[.slice Ao9 t305.length co9, .slice none 0 0]) ?_ 1 _ rfl; (with_reducible repeat (first | refine blk_drewN ?_ _ | refine blk_drew ?_ | refine blk_alloc ?_ _)); refine blk_put (cs := #[.slice none 0 0, .slice none 0 0]) ?_ 0 _ rfl; (with_reducible repeat (first | refine blk_drewN ?_ _ | refine blk_drew ?_ | refine blk_alloc ?_ _)); exact BK311.out) hb); replace HB := bS HB hb; (try clear hb); (try clear hb2); (try clear hk); (try clear hi); (try clear ho0); have hcz13_0 := zc0 BK311; have hcz13_1 := zc1 BK311; have hfz13_0 := blk_frozen BK311.out 0; have hfz13_1 := blk_frozen BK311.out 1) | (go_at_call 11; (with_reducible refine (spec_MapFaces.calls k _ _ t305 _ _ t308 t316 t319 _ ?side1 ?side2 ?side3 ?side4 A5.out).mono ?_); (case side1 => exact cP (Kd.Q_reads' HO307.out).2.2); (case side2 => exact (Kd.Q_reads' HO307.out).2.1); (case side3 => exact cP (Kd.R_reads' HO310.out).2.2); (case side4 => exact (Kd.R_reads' HO310.out).2.1); rintro e w14 ⟨v317, rfl, ho0, hb⟩; have HO318 := Aside0.mk (Kd.R_lower (Kd.R_new' (Kd.R_new' (Kd.R_new' ho0 (Kd.Q_lt (by (with_reducible repeat (first | apply Kd.Q_alloc | apply Kd.Q_drewN | apply Kd.Q_drew)); exact HO307.out))) (Kd.R_lt (rP HO310))) (Kd.R_lt (rP HO314))) (below_size (bP HB))); replace HO307 := Aside0.mk (Kd.Q_elder' (by (with_reducible repeat (first | apply Kd.Q_alloc | apply Kd.Q_drewN | apply Kd.Q_drew)); exact HO307.out) (Kd.R_base ho0) hb); replace HO310 := Aside0.mk (Kd.R_elder' (rP HO310) (Kd.R_base ho0) hb); replace HO314 := Aside0.mk (Kd.R_elder' (rP HO314) (Kd.R_base ho0) hb); replace BK311 := kB BK311 hb; replace HB := bS HB hb; (try clear hb); (try clear hb2); (try clear hk); (try clear hi); (try clear ho0))); go_upto_region 6 with (first | (go_at_call 9; (with_reducible refine (spec_DrawMapFaces.calls k _ _ l0 t305 t308 _ ?side1 ?side2 A3.out).mono ?_); (case side1 => repeat (first | exact HR0.out | (with_reducible refine Kd.C_alloc ?_ _) | (with_reducible refine Kd.C_drewN ?_ _) | (with_reducible refine Kd.C_drew ?_))); (case side2 => exact HC0.out); rintro e w7 ⟨v306, v309, rfl, ho0, ho1, hb⟩; have HO307 := Aside0.mk (Kd.Q_lower ho0 (below_size (bP HB))); have HO310 := rL ho1 HB; replace HB := bS HB hb; (try clear hb); (try clear hb2); (try clear hk); (try clear hi); (try clear ho0); (try clear ho1)) | ((with_reducible refine gate_dst (N := 3) rfl ?_); (try (refine gate_guard (by rfl) ?_; dsimp only)); refine bE 3 #[.slice none 0 0, .slice none 0 0] 25 ?_; intro gb311 hg w8 hbox hb; replace HO307 := Aside0.mk (Kd.Q_below (by (with_reducible repeat (first | apply Kd.Q_alloc | apply Kd.Q_drewN | apply Kd.Q_drew)); exact HO307.out) hb); replace HO310 := rB HO310 hb; have BK311 := Aside0.mk (hbox); have GW311 := gS HB hg; have GE311 := gS HB hg; replace HB := bS HB hb; clear hb hbox hg; obtain ⟨Ao9, co9, eo9, _⟩ := Kd.Q_slice HO307.out; subst eo9; have hcz10_0 := zc0 BK311; have hcz10_1 := zc1 BK311; have hfz10_0 := blk_frozen BK311.out 0; have hfz10_1 := blk_frozen BK311.out 1; obtain ⟨Ao11, co11, eo11⟩ := Kd.R_slice HO310.out; subst eo11) | (go_at_call 10; (with_reducible refine (impl_MapFaces.calls k _ _ t305 _ _ t308 t312 t315 _ ?side1 ?side2 ?side3 ?side4 A4.out).mono ?_); (case side1 => refine (Kd.Q_reads' (e := 3) (base := w.heap.size) (ok := fun k_ => oN k_ Ao11 t308 co11) (n := t305.length) (c := co9) ?_).2.2; exact (by (with_reducible repeat (first | apply Kd.Q_alloc | apply Kd.Q_drewN | apply Kd.Q_drew)); exact (Kd.Q_mono (Kd.Q_far (p := ⟨gb311, 1, none⟩) (Kd.Q_far (p := ⟨gb311, 0, none⟩) (Kd.Q_types HO307.out BK311.out (by decide)) (fun _ hk => hk.2) (.slice Ao9 t305.length co9)) (fun _ hk => hk.2) (.slice Ao11 t308.length co11)) (fun _ h_ => h_.1)))); (case side2 => exact (Kd.Q_reads' HO307.out).2.1); (case side3 => refine (Kd.R_reads' (e := 3) (base := w.heap.size) (ok := fun k_ => oN k_ Ao9 t305 co9) (n := t308.length) (c := co11) ?_).2.2; exact (rT (Kd.R_mono (Kd.R_far (p := ⟨gb311, 1, none⟩) (Kd.R_far (p := ⟨gb311, 0, none⟩) (Kd.R_types HO310.out BK311.out (by decide)) (fun _ hk => hk.2) (.slice Ao9 t305.length co9)) (fun _ hk => hk.2) (.slice Ao11 t308.length co11)) (fun _ h_ => h_.1)))); (case side4 => exact (Kd.R_reads' HO310.out).2.1); rintro e w12 ⟨v313, rfl, ho0, hb⟩; have HO314 := Aside0.mk (Kd.R_lower (Kd.R_new' (Kd.R_new' ho0 (Kd.Q_lt (by (with_reducible repeat (first | apply Kd.Q_alloc | apply Kd.Q_drewN | apply Kd.Q_drew)); exact (Kd.Q_mono (Kd.Q_far (p := ⟨gb311, 1, none⟩) (Kd.Q_far (p := ⟨gb311, 0, none⟩) (Kd.Q_types HO307.out BK311.out (by decide)) (fun _ hk => hk.2) (.slice Ao9 t305.length co9)) (fun _ hk => hk.2) (.slice Ao11 t308.length co11)) (fun _ h_ => h_.1))))) (Kd.R_lt (rT (Kd.R_mono (Kd.R_far (p := ⟨gb311, 1, none⟩) (Kd.R_far (p := ⟨gb311, 0, none⟩) (Kd.R_types HO310.out BK311.out (by decide)) (fun _ hk => hk.2) (.slice Ao9 t305.length co9)) (fun _ hk => hk.2) (.slice Ao11 t308.length co11)) (fun _ h_ => h_.1))))) (below_size (bP HB))); replace HO307 := Aside0.mk (Kd.Q_elder' (by (with_reducible repeat (first | apply Kd.Q_alloc | apply Kd.Q_drewN | apply Kd.Q_drew)); exact (Kd.Q_mono (Kd.Q_far (p := ⟨gb311, 1, none⟩) (Kd.Q_far (p := ⟨gb311, 0, none⟩) (Kd.Q_types HO307.out BK311.out (by decide)) (fun _ hk => hk.2) (.slice Ao9 t305.length co9)) (fun _ hk => hk.2) (.slice Ao11 t308.length co11)) (fun _ h_ => h_.1))) (Kd.R_base ho0) hb); replace HO310 := Aside0.mk (Kd.R_elder' (rT (Kd.R_mono (Kd.R_far (p := ⟨gb311, 1, none⟩) (Kd.R_far (p := ⟨gb311, 0, none⟩) (Kd.R_types HO310.out BK311.out (by decide)) (fun _ hk => hk.2) (.slice Ao9 t305.length co9)) (fun _ hk => hk.2) (.slice Ao11 t308.length co11)) (fun _ h_ => h_.1))) (Kd.R_base ho0) hb); replace BK311 := Aside0.mk (blk_below (g := gb311) (o := .cells #[.slice Ao9 t305.length co9, .slice Ao11 t308.length co11] 25 (0, 0)) (by (with_reducible repeat (first | refine blk_drewN ?_ _ | refine blk_drew ?_ | refine blk_alloc ?_ _)); refine blk_put (cs := #[.slice Ao9 t305.length co9, .slice none 0 0]) ?_ 1 _ rfl; (with_reducible repeat (first | refine blk_drewN ?_ _ | refine blk_drew ?_ | refine blk_alloc ?_ _)); refine blk_put (cs := #[.slice none 0 0, .slice none 0 0]) ?_ 0 _ rfl; (with_reducible repeat (first | refine blk_drewN ?_ _ | refine blk_drew ?_ | refine blk_alloc ?_ _)); exact BK311.out) hb); replace HB := bS HB hb; (try clear hb); (try clear hb2); (try clear hk); (try clear hi); (try clear ho0); have hcz13_0 := zc0 BK311; have hcz13_1 := zc1 BK311; have hfz13_0 := blk_frozen BK311.out 0; have hfz13_1 := blk_frozen BK311.out 1) | (go_at_call 11; (with_reducible refine (spec_MapFaces.calls k _ _ t305 _ _ t308 t316 t319 _ ?side1 ?side2 ?side3 ?side4 A5.out).mono ?_); (case side1 => exact cP (Kd.Q_reads' HO307.out).2.2); (case side2 => exact (Kd.Q_reads' HO307.out).2.1); (case side3 => exact cP (Kd.R_reads' HO310.out).2.2); (case side4 => exact (Kd.R_reads' HO310.out).2.1); rintro e w14 ⟨v317, rfl, ho0, hb⟩; have HO318 := Aside0.mk (Kd.R_lower (Kd.R_new' (Kd.R_new' (Kd.R_new' ho0 (Kd.Q_lt (by (with_reducible repeat (first | apply Kd.Q_alloc | apply Kd.Q_drewN | apply Kd.Q_drew)); exact HO307.out))) (Kd.R_lt (rP HO310))) (Kd.R_lt (rP HO314))) (below_size (bP HB))); replace HO307 := Aside0.mk (Kd.Q_elder' (by (with_reducible repeat (first | apply Kd.Q_alloc | apply Kd.Q_drewN | apply Kd.Q_drew)); exact HO307.out) (Kd.R_base ho0) hb); replace HO310 := Aside0.mk (Kd.R_elder' (rP HO310) (Kd.R_base ho0) hb); replace HO314 := Aside0.mk (Kd.R_elder' (rP HO314) (Kd.R_base ho0) hb); replace BK311 := kB BK311 hb; replace HB := bS HB hb; (try clear hb); (try clear hb2); (try clear hk); (try clear hi); (try clear ho0))))
  (try simp only [Act.put, List.setIfInBounds_toArray, List.set_cons_zero, List.set_cons_succ])
  go_cut [44] (fun v44 wc => ∃ (kq : Nat) (x44_5 : Bool), v44 = .bool x44_5 ∧ Aside0 (laws_FnFaces.j0 kq t312 t315 t316 t319 x44_5 t305 t308 = some r) ∧ Aside0 (kq ≤ k) ∧ Aside0 (Kd.R (Kd.int .i64) 3 wc w.heap.size (fun k_ => some k_ ≠ (v317 : Value).ownBlock ∧ oN k_ Ao9 t305 co9 ∧ oN k_ Ao11 t308 co11) v313 t312) ∧ Aside0 (Kd.R (Kd.int .i64) 3 wc w.heap.size (fun k_ => some k_ ≠ (v313 : Value).ownBlock ∧ oN k_ Ao9 t305 co9 ∧ oN k_ Ao11 t308 co11) v317 t316) ∧ Aside0 (Kd.Q (Kd.int .i64) 3 wc w.heap.size (fun k_ => some k_ ≠ (v313 : Value).ownBlock ∧ some k_ ≠ (v317 : Value).ownBlock ∧ oN k_ Ao11 t308 co11) (.slice Ao9 t305.length co9) t305) ∧ Aside0 (Kd.R (Kd.int .i64) 3 wc w.heap.size (fun k_ => some k_ ≠ (v313 : Value).ownBlock ∧ some k_ ≠ (v317 : Value).ownBlock ∧ oN k_ Ao9 t305 co9) (.slice Ao11 t308.length co11) t308) ∧ Aside0 (wc.heap[gb311]? = some (.cells #[(.slice Ao9 t305.length co9), (.slice Ao11 t308.length co11)] 25 (0, 0))) ∧ Aside0 (Below w.heap.size w wc))
  case first =>
   have H := HC6.out
   clear HC6
   by_cases c15 : (t315 != t319) = true
   ·rw [if_pos c15] at H
    have c15b0 : (t315 != t319) = true := c15
    (try (have c15b1 : decide (t315 = t319) = false := by simpa using c15))
    (try (have c15b2 : (t315 == t319) = false := by simpa using c15))
    (try (have c15b3 : ¬ (t315 = t319) := by simpa using c15))
    clear c15
    (first | rw [c15b0] | (simp only [i64_w, i32_w]; rw [c15b0]) | skip)
    have H' := Aside0.mk H
    clear H
    go_wp2
    repeat (go_quiet (fail); try go_wp2)
    go_meet
    case rel => exact ⟨_, (true), eS, H', ⟨by first | omega | exact Nat.le_refl _⟩, ⟨by (with_reducible repeat (first | apply Kd.R_alloc | apply Kd.R_drewN | apply Kd.R_drew)); exact Kd.R_mono HO314.out (fun _ hk => ⟨hk.2, ⟨hk.1.1.2, hk.1.2⟩⟩)⟩, ⟨by (with_reducible repeat (first | apply Kd.R_alloc | apply Kd.R_drewN | apply Kd.R_drew)); exact Kd.R_mono HO318.out (fun _ hk => ⟨hk.2, ⟨hk.1.1.2, hk.1.2⟩⟩)⟩, ⟨by (with_reducible repeat (first | apply Kd.Q_alloc | apply Kd.Q_drewN | apply Kd.Q_drew)); exact Kd.Q_mono HO307.out (fun _ hk => ⟨hk.1.2, ⟨hk.2, hk.1.1⟩⟩)⟩, ⟨by (with_reducible repeat (first | apply Kd.R_alloc | apply Kd.R_drewN | apply Kd.R_drew)); exact Kd.R_mono HO310.out (fun _ hk => ⟨hk.1.2, ⟨hk.2, hk.1.1⟩⟩)⟩, ⟨kP BK311⟩, ⟨bP HB⟩⟩
   ·rw [if_neg c15] at H
    have c15b0 : (t315 != t319) = false := by simpa using c15
    (try (have c15b1 : decide (t315 = t319) = true := by simpa using c15))
    (try (have c15b2 : (t315 == t319) = true := by simpa using c15))
    clear c15
    (first | rw [c15b0] | (simp only [i64_w, i32_w]; rw [c15b0]) | skip)
    replace H := Option.bind_eq_some_iff.mp H
    obtain ⟨t320, A160, H⟩ := H
    replace H : (if t320 = true then (laws_FnFaces.j0 k t312 t315 t316 t319 (!t315) t305 t308) else (laws_FnFaces.j0 k t312 t315 t316 t319 true t305 t308)) = some r := H
    have A16 := Aside0.mk A160
    clear A160
    by_cases c17 : t320 = true
    ·subst c17
     have H1 : (laws_FnFaces.j0 k t312 t315 t316 t319 (!t315) t305 t308) = some r := by rw [if_pos rfl] at H; exact H
     clear H
     have H := H1
     clear H1
     have H' := Aside0.mk H
     clear H
     obtain ⟨Ao18, co18, eo18⟩ := Kd.R_slice HO314.out
     subst eo18
     obtain ⟨Ao19, co19, eo19⟩ := Kd.R_slice HO318.out
     subst eo19
     go_wp2_with (first | (go_at_call 12; (with_reducible refine (laws_sameInts.calls k _ _ t312 _ _ t316 true _ ?side1 ?side2 ?side3 ?side4 A16.out).mono ?_); (case side1 => exact cP (Kd.R_reads' HO314.out).2.2); (case side2 => exact (Kd.R_reads' HO314.out).2.1); (case side3 => exact cP (Kd.R_reads' HO318.out).2.2); (case side4 => exact (Kd.R_reads' HO318.out).2.1); rintro e w' ⟨rfl, ⟨nd, rfl⟩⟩; (try first | exact ⟨rfl, _, World.drewN_drewN _ _ _⟩ | exact ⟨rfl, _, Eq.trans (World.drewN_drewN _ _ _) (congrArg (World.drewN _) (Nat.add_assoc _ _ _))⟩)))
     repeat (go_quiet (first | (go_at_call 12; (with_reducible refine (laws_sameInts.calls k _ _ t312 _ _ t316 true _ ?side1 ?side2 ?side3 ?side4 A16.out).mono ?_); (case side1 => exact cP (Kd.R_reads' HO314.out).2.2); (case side2 => exact (Kd.R_reads' HO314.out).2.1); (case side3 => exact cP (Kd.R_reads' HO318.out).2.2); (case side4 => exact (Kd.R_reads' HO318.out).2.1); rintro e w' ⟨rfl, ⟨nd, rfl⟩⟩; (try first | exact ⟨rfl, _, World.drewN_drewN _ _ _⟩ | exact ⟨rfl, _, Eq.trans (World.drewN_drewN _ _ _) (congrArg (World.drewN _) (Nat.add_assoc _ _ _))⟩))); try go_wp2_with (first | (go_at_call 12; (with_reducible refine (laws_sameInts.calls k _ _ t312 _ _ t316 true _ ?side1 ?side2 ?side3 ?side4 A16.out).mono ?_); (case side1 => exact cP (Kd.R_reads' HO314.out).2.2); (case side2 => exact (Kd.R_reads' HO314.out).2.1); (case side3 => exact cP (Kd.R_reads' HO318.out).2.2); (case side4 => exact (Kd.R_reads' HO318.out).2.1); rintro e w' ⟨rfl, ⟨nd, rfl⟩⟩; (try first | exact ⟨rfl, _, World.drewN_drewN _ _ _⟩ | exact ⟨rfl, _, Eq.trans (World.drewN_drewN _ _ _) (congrArg (World.drewN _) (Nat.add_assoc _ _ _))⟩))))
     go_meet
     case rel => exact ⟨_, (!t315), eS, H', ⟨by first | omega | exact Nat.le_refl _⟩, ⟨by (with_reducible repeat (first | apply Kd.R_alloc | apply Kd.R_drewN | apply Kd.R_drew)); exact Kd.R_mono HO314.out (fun _ hk => ⟨hk.2, ⟨hk.1.1.2, hk.1.2⟩⟩)⟩, ⟨by (with_reducible repeat (first | apply Kd.R_alloc | apply Kd.R_drewN | apply Kd.R_drew)); exact Kd.R_mono HO318.out (fun _ hk => ⟨hk.2, ⟨hk.1.1.2, hk.1.2⟩⟩)⟩, ⟨by (with_reducible repeat (first | apply Kd.Q_alloc | apply Kd.Q_drewN | apply Kd.Q_drew)); exact Kd.Q_mono HO307.out (fun _ hk => ⟨hk.1.2, ⟨hk.2, hk.1.1⟩⟩)⟩, ⟨by (with_reducible repeat (first | apply Kd.R_alloc | apply Kd.R_drewN | apply Kd.R_drew)); exact Kd.R_mono HO310.out (fun _ hk => ⟨hk.1.2, ⟨hk.2, hk.1.1⟩⟩)⟩, ⟨kP BK311⟩, ⟨bP HB⟩⟩
    ·replace c17 := Bool.eq_false_iff.mpr c17
     subst c17
     have H1 : (laws_FnFaces.j0 k t312 t315 t316 t319 true t305 t308) = some r := by rw [if_neg (show ¬ (false = true) by decide)] at H; exact H
     clear H
     have H := H1
     clear H1
     have H' := Aside0.mk H
     clear H
     obtain ⟨Ao20, co20, eo20⟩ := Kd.R_slice HO314.out
     subst eo20
     obtain ⟨Ao21, co21, eo21⟩ := Kd.R_slice HO318.out
     subst eo21
     go_wp2_with (first | (go_at_call 12; (with_reducible refine (laws_sameInts.calls k _ _ t312 _ _ t316 false _ ?side1 ?side2 ?side3 ?side4 A16.out).mono ?_); (case side1 => exact cP (Kd.R_reads' HO314.out).2.2); (case side2 => exact (Kd.R_reads' HO314.out).2.1); (case side3 => exact cP (Kd.R_reads' HO318.out).2.2); (case side4 => exact (Kd.R_reads' HO318.out).2.1); rintro e w' ⟨rfl, ⟨nd, rfl⟩⟩; (try first | exact ⟨rfl, _, World.drewN_drewN _ _ _⟩ | exact ⟨rfl, _, Eq.trans (World.drewN_drewN _ _ _) (congrArg (World.drewN _) (Nat.add_assoc _ _ _))⟩)))
     repeat (go_quiet (first | (go_at_call 12; (with_reducible refine (laws_sameInts.calls k _ _ t312 _ _ t316 false _ ?side1 ?side2 ?side3 ?side4 A16.out).mono ?_); (case side1 => exact cP (Kd.R_reads' HO314.out).2.2); (case side2 => exact (Kd.R_reads' HO314.out).2.1); (case side3 => exact cP (Kd.R_reads' HO318.out).2.2); (case side4 => exact (Kd.R_reads' HO318.out).2.1); rintro e w' ⟨rfl, ⟨nd, rfl⟩⟩; (try first | exact ⟨rfl, _, World.drewN_drewN _ _ _⟩ | exact ⟨rfl, _, Eq.trans (World.drewN_drewN _ _ _) (congrArg (World.drewN _) (Nat.add_assoc _ _ _))⟩))); try go_wp2_with (first | (go_at_call 12; (with_reducible refine (laws_sameInts.calls k _ _ t312 _ _ t316 false _ ?side1 ?side2 ?side3 ?side4 A16.out).mono ?_); (case side1 => exact cP (Kd.R_reads' HO314.out).2.2); (case side2 => exact (Kd.R_reads' HO314.out).2.1); (case side3 => exact cP (Kd.R_reads' HO318.out).2.2); (case side4 => exact (Kd.R_reads' HO318.out).2.1); rintro e w' ⟨rfl, ⟨nd, rfl⟩⟩; (try first | exact ⟨rfl, _, World.drewN_drewN _ _ _⟩ | exact ⟨rfl, _, Eq.trans (World.drewN_drewN _ _ _) (congrArg (World.drewN _) (Nat.add_assoc _ _ _))⟩))))
     go_meet
     case rel => exact ⟨_, (true), eS, H', ⟨by first | omega | exact Nat.le_refl _⟩, ⟨by (with_reducible repeat (first | apply Kd.R_alloc | apply Kd.R_drewN | apply Kd.R_drew)); exact Kd.R_mono HO314.out (fun _ hk => ⟨hk.2, ⟨hk.1.1.2, hk.1.2⟩⟩)⟩, ⟨by (with_reducible repeat (first | apply Kd.R_alloc | apply Kd.R_drewN | apply Kd.R_drew)); exact Kd.R_mono HO318.out (fun _ hk => ⟨hk.2, ⟨hk.1.1.2, hk.1.2⟩⟩)⟩, ⟨by (with_reducible repeat (first | apply Kd.Q_alloc | apply Kd.Q_drewN | apply Kd.Q_drew)); exact Kd.Q_mono HO307.out (fun _ hk => ⟨hk.1.2, ⟨hk.2, hk.1.1⟩⟩)⟩, ⟨by (with_reducible repeat (first | apply Kd.R_alloc | apply Kd.R_drewN | apply Kd.R_drew)); exact Kd.R_mono HO310.out (fun _ hk => ⟨hk.1.2, ⟨hk.2, hk.1.1⟩⟩)⟩, ⟨kP BK311⟩, ⟨bP HB⟩⟩
  case rest =>
   clear HC6
   try clear c1
   try clear c2
   try clear c2b0
   try clear c2b1
   try clear p2
   try clear c3
   try clear c15
   try clear c15b0
   try clear c15b1
   try clear c15b2
   try clear c17
   try clear hcz10_0
   try clear hcz10_1
   try clear hcz13_0
   try clear hcz13_1
   try clear hfz10_0
   try clear hfz10_1
   try clear hfz13_0
   try clear hfz13_1
   obtain ⟨kq, x44_5, rfl, HA, HJ5, HO_4, HO_6, HO_312000, HO_312001, BK311, HB⟩ := hcut
   cases kq with
   | zero => exact absurd HA.out (by simp [laws_FnFaces.j0])
   | succ kj5 =>
    have H := HA.out
    clear HA
    simp only [laws_FnFaces.j0] at H
    by_cases c22 : x44_5 = true
    ·subst c22
     have H1 : (if (t315 == t319) = true then ((laws_sameInts.f kj5 t312 t316).bind fun t321 => (some t321)) else (some false)) = some r := by rw [if_pos rfl] at H; exact H
     clear H
     have H := H1
     clear H1
     by_cases c23 : (t315 == t319) = true
     ·rw [if_pos c23] at H
      have c23b0 : (t315 == t319) = true := c23
      (try (have c23b1 : decide (t315 = t319) = true := by simpa using c23))
      (try (have c23b2 : (t315 == t319) = true := by simpa using c23))
      clear c23
      replace H := Option.bind_eq_some_iff.mp H
      obtain ⟨t321, A240, H⟩ := H
      replace H : (some t321) = some r := H
      have A24 := Aside0.mk A240
      clear A240
      obtain rfl := Option.some.inj H
      obtain ⟨Ao25, co25, eo25⟩ := Kd.R_slice HO_4.out
      subst eo25
      obtain ⟨Ao26, co26, eo26⟩ := Kd.R_slice HO_6.out
      subst eo26
      go_wp2_with (first | (go_at_call 12; (with_reducible refine (laws_sameInts.calls kj5 _ _ t312 _ _ t316 t321 _ ?side1 ?side2 ?side3 ?side4 A24.out).mono ?_); (case side1 => exact cP (Kd.R_reads' HO_4.out).2.2); (case side2 => exact (Kd.R_reads' HO_4.out).2.1); (case side3 => exact cP (Kd.R_reads' HO_6.out).2.2); (case side4 => exact (Kd.R_reads' HO_6.out).2.1); rintro e w' ⟨rfl, ⟨nd, rfl⟩⟩; (try first | exact ⟨rfl, _, World.drewN_drewN _ _ _⟩ | exact ⟨rfl, _, Eq.trans (World.drewN_drewN _ _ _) (congrArg (World.drewN _) (Nat.add_assoc _ _ _))⟩)))
      repeat (go_quiet (first | (go_at_call 12; (with_reducible refine (laws_sameInts.calls kj5 _ _ t312 _ _ t316 t321 _ ?side1 ?side2 ?side3 ?side4 A24.out).mono ?_); (case side1 => exact cP (Kd.R_reads' HO_4.out).2.2); (case side2 => exact (Kd.R_reads' HO_4.out).2.1); (case side3 => exact cP (Kd.R_reads' HO_6.out).2.2); (case side4 => exact (Kd.R_reads' HO_6.out).2.1); rintro e w' ⟨rfl, ⟨nd, rfl⟩⟩; (try first | exact ⟨rfl, _, World.drewN_drewN _ _ _⟩ | exact ⟨rfl, _, Eq.trans (World.drewN_drewN _ _ _) (congrArg (World.drewN _) (Nat.add_assoc _ _ _))⟩))); try go_wp2_with (first | (go_at_call 12; (with_reducible refine (laws_sameInts.calls kj5 _ _ t312 _ _ t316 t321 _ ?side1 ?side2 ?side3 ?side4 A24.out).mono ?_); (case side1 => exact cP (Kd.R_reads' HO_4.out).2.2); (case side2 => exact (Kd.R_reads' HO_4.out).2.1); (case side3 => exact cP (Kd.R_reads' HO_6.out).2.2); (case side4 => exact (Kd.R_reads' HO_6.out).2.1); rintro e w' ⟨rfl, ⟨nd, rfl⟩⟩; (try first | exact ⟨rfl, _, World.drewN_drewN _ _ _⟩ | exact ⟨rfl, _, Eq.trans (World.drewN_drewN _ _ _) (congrArg (World.drewN _) (Nat.add_assoc _ _ _))⟩))))
      go_ret
      exact ⟨eR, bP HB⟩
     ·rw [if_neg c23] at H
      have c23b0 : (t315 == t319) = false := by simpa using c23
      (try (have c23b1 : decide (t315 = t319) = false := by simpa using c23))
      (try (have c23b2 : (t315 == t319) = false := by simpa using c23))
      (try (have c23b3 : ¬ (t315 = t319) := by simpa using c23))
      clear c23
      exact absurd ((Option.some.inj H).trans hr_.out) (by decide)
    ·replace c22 := Bool.eq_false_iff.mpr c22
     subst c22
     have H1 : ((impl_MapCounts.f kj5 t305 t308).bind fun bt322 => ((impl_PermCycles.f kj5 t312).bind fun bt326 => ((impl_PermCycles.f kj5 t305).bind fun bt330 => (laws_FnFaces.l0 kj5 t312 bt322.1 bt322.2 bt326.1 bt326.2 bt330.1 bt330.2 0 t305 t308)))) = some r := by rw [if_neg (show ¬ (false = true) by decide)] at H; exact H
     clear H
     have H := H1
     clear H1
     replace H := Option.bind_eq_some_iff.mp H
     obtain ⟨⟨t322, t325⟩, A270, H⟩ := H
     replace H : ((impl_PermCycles.f kj5 t312).bind fun bt326 => ((impl_PermCycles.f kj5 t305).bind fun bt330 => (laws_FnFaces.l0 kj5 t312 t322 t325 bt326.1 bt326.2 bt330.1 bt330.2 0 t305 t308))) = some r := H
     have A27 := Aside0.mk A270
     clear A270
     replace H := Option.bind_eq_some_iff.mp H
     obtain ⟨⟨t326, t327⟩, A280, H⟩ := H
     replace H : ((impl_PermCycles.f kj5 t305).bind fun bt330 => (laws_FnFaces.l0 kj5 t312 t322 t325 t326 t327 bt330.1 bt330.2 0 t305 t308)) = some r := H
     have A28 := Aside0.mk A280
     clear A280
     replace H := Option.bind_eq_some_iff.mp H
     obtain ⟨⟨t330, t331⟩, A290, H⟩ := H
     replace H : (laws_FnFaces.l0 kj5 t312 t322 t325 t326 t327 t330 t331 0 t305 t308) = some r := H
     have A29 := Aside0.mk A290
     clear A290
     have H' := Aside0.mk H
     clear H
     have hcz30_0 := zc0 BK311
     have hcz30_1 := zc1 BK311
     have hfz30_0 := blk_frozen BK311.out 0
     have hfz30_1 := blk_frozen BK311.out 1
     go_wp2_with (first | (go_at_call 13; (with_reducible refine (impl_MapCounts.calls kj5 _ _ t305 _ _ t308 t322 t325 _ ?side1 ?side2 ?side3 ?side4 A27.out).mono ?_); (case side1 => exact cP (Kd.Q_reads' HO_312000.out).2.2); (case side2 => exact (Kd.Q_reads' HO_312000.out).2.1); (case side3 => exact cP (Kd.R_reads' HO_312001.out).2.2); (case side4 => exact (Kd.R_reads' HO_312001.out).2.1); rintro e w31 ⟨v323, rfl, ho0, hb⟩; have HO324 := Aside0.mk (Kd.R_lower (Kd.R_new' (Kd.R_new' (Kd.R_new' (Kd.R_new' ho0 (Kd.R_lt (rP HO_4))) (Kd.R_lt (rP HO_6))) (Kd.Q_lt (by (with_reducible repeat (first | apply Kd.Q_alloc | apply Kd.Q_drewN | apply Kd.Q_drew)); exact HO_312000.out))) (Kd.R_lt (rP HO_312001))) (below_size (bP HB))); replace HO_4 := Aside0.mk (Kd.R_elder' (rP HO_4) (Kd.R_base ho0) hb); replace HO_6 := Aside0.mk (Kd.R_elder' (rP HO_6) (Kd.R_base ho0) hb); replace HO_312000 := Aside0.mk (Kd.Q_elder' (by (with_reducible repeat (first | apply Kd.Q_alloc | apply Kd.Q_drewN | apply Kd.Q_drew)); exact HO_312000.out) (Kd.R_base ho0) hb); replace HO_312001 := Aside0.mk (Kd.R_elder' (rP HO_312001) (Kd.R_base ho0) hb); replace BK311 := kB BK311 hb; replace HB := bS HB hb; (try clear hb); (try clear hb2); (try clear hk); (try clear hi); (try clear ho0); obtain ⟨Ao32, co32, eo32⟩ := Kd.R_slice HO_4.out; subst eo32) | (go_at_call 14; (with_reducible refine (impl_PermCycles.calls kj5 _ _ t312 t326 t327 _ ?side1 ?side2 A28.out).mono ?_); (case side1 => exact cP (Kd.R_reads' HO_4.out).2.2); (case side2 => exact (Kd.R_reads' HO_4.out).2.1); rintro e w33 ⟨v328, rfl, ho0, hb⟩; have HO329 := Aside0.mk (Kd.S_lower (Kd.S_new' (Kd.S_new' (Kd.S_new' (Kd.S_new' (Kd.S_new' ho0 (Kd.R_lt (rP HO_4))) (Kd.R_lt (rP HO_6))) (Kd.Q_lt (by (with_reducible repeat (first | apply Kd.Q_alloc | apply Kd.Q_drewN | apply Kd.Q_drew)); exact HO_312000.out))) (Kd.R_lt (rP HO_312001))) (Kd.R_lt (rP HO324))) (below_size (bP HB))); replace HO_4 := rB HO_4 hb; replace HO_6 := rB HO_6 hb; replace HO_312000 := Aside0.mk (Kd.Q_below (by (with_reducible repeat (first | apply Kd.Q_alloc | apply Kd.Q_drewN | apply Kd.Q_drew)); exact HO_312000.out) hb); replace HO_312001 := rB HO_312001 hb; replace HO324 := rB HO324 hb; replace BK311 := kB BK311 hb; replace HB := bS HB hb; (try clear hb); (try clear hb2); (try clear hk); (try clear hi); (try clear ho0); have hcz34_0 := zc0 BK311; have hcz34_1 := zc1 BK311; have hfz34_0 := blk_frozen BK311.out 0; have hfz34_1 := blk_frozen BK311.out 1) | (go_at_call 14; (with_reducible refine (impl_PermCycles.calls kj5 _ _ t305 t330 t331 _ ?side1 ?side2 A29.out).mono ?_); (case side1 => exact cP (Kd.Q_reads' HO_312000.out).2.2); (case side2 => exact (Kd.Q_reads' HO_312000.out).2.1); rintro e w35 ⟨v332, rfl, ho0, hb⟩; have HO333 := Aside0.mk (Kd.S_lower (Kd.S_new' (Kd.S_new' (Kd.S_new' (Kd.S_new' (Kd.S_new' (Kd.S_new' ho0 (Kd.R_lt (rP HO_4))) (Kd.R_lt (rP HO_6))) (Kd.Q_lt (by (with_reducible repeat (first | apply Kd.Q_alloc | apply Kd.Q_drewN | apply Kd.Q_drew)); exact HO_312000.out))) (Kd.R_lt (rP HO_312001))) (Kd.R_lt (rP HO324))) (Kd.S_lt (by (with_reducible repeat (first | apply Kd.S_alloc | apply Kd.S_drewN | apply Kd.S_drew)); exact HO329.out))) (below_size (bP HB))); replace HO_4 := rB HO_4 hb; replace HO_6 := rB HO_6 hb; replace HO_312000 := Aside0.mk (Kd.Q_below (by (with_reducible repeat (first | apply Kd.Q_alloc | apply Kd.Q_drewN | apply Kd.Q_drew)); exact HO_312000.out) hb); replace HO_312001 := rB HO_312001 hb; replace HO324 := rB HO324 hb; replace HO329 := Aside0.mk (Kd.S_elder' (by (with_reducible repeat (first | apply Kd.S_alloc | apply Kd.S_drewN | apply Kd.S_drew)); exact HO329.out) (Kd.S_base ho0) hb); replace BK311 := kB BK311 hb; replace HB := bS HB hb; (try clear hb); (try clear hb2); (try clear hk); (try clear hi); (try clear ho0)))
     repeat (go_quiet (first | (go_at_call 13; (with_reducible refine (impl_MapCounts.calls kj5 _ _ t305 _ _ t308 t322 t325 _ ?side1 ?side2 ?side3 ?side4 A27.out).mono ?_); (case side1 => exact cP (Kd.Q_reads' HO_312000.out).2.2); (case side2 => exact (Kd.Q_reads' HO_312000.out).2.1); (case side3 => exact cP (Kd.R_reads' HO_312001.out).2.2); (case side4 => exact (Kd.R_reads' HO_312001.out).2.1); rintro e w31 ⟨v323, rfl, ho0, hb⟩; have HO324 := Aside0.mk (Kd.R_lower (Kd.R_new' (Kd.R_new' (Kd.R_new' (Kd.R_new' ho0 (Kd.R_lt (rP HO_4))) (Kd.R_lt (rP HO_6))) (Kd.Q_lt (by (with_reducible repeat (first | apply Kd.Q_alloc | apply Kd.Q_drewN | apply Kd.Q_drew)); exact HO_312000.out))) (Kd.R_lt (rP HO_312001))) (below_size (bP HB))); replace HO_4 := Aside0.mk (Kd.R_elder' (rP HO_4) (Kd.R_base ho0) hb); replace HO_6 := Aside0.mk (Kd.R_elder' (rP HO_6) (Kd.R_base ho0) hb); replace HO_312000 := Aside0.mk (Kd.Q_elder' (by (with_reducible repeat (first | apply Kd.Q_alloc | apply Kd.Q_drewN | apply Kd.Q_drew)); exact HO_312000.out) (Kd.R_base ho0) hb); replace HO_312001 := Aside0.mk (Kd.R_elder' (rP HO_312001) (Kd.R_base ho0) hb); replace BK311 := kB BK311 hb; replace HB := bS HB hb; (try clear hb); (try clear hb2); (try clear hk); (try clear hi); (try clear ho0); obtain ⟨Ao32, co32, eo32⟩ := Kd.R_slice HO_4.out; subst eo32) | (go_at_call 14; (with_reducible refine (impl_PermCycles.calls kj5 _ _ t312 t326 t327 _ ?side1 ?side2 A28.out).mono ?_); (case side1 => exact cP (Kd.R_reads' HO_4.out).2.2); (case side2 => exact (Kd.R_reads' HO_4.out).2.1); rintro e w33 ⟨v328, rfl, ho0, hb⟩; have HO329 := Aside0.mk (Kd.S_lower (Kd.S_new' (Kd.S_new' (Kd.S_new' (Kd.S_new' (Kd.S_new' ho0 (Kd.R_lt (rP HO_4))) (Kd.R_lt (rP HO_6))) (Kd.Q_lt (by (with_reducible repeat (first | apply Kd.Q_alloc | apply Kd.Q_drewN | apply Kd.Q_drew)); exact HO_312000.out))) (Kd.R_lt (rP HO_312001))) (Kd.R_lt (rP HO324))) (below_size (bP HB))); replace HO_4 := rB HO_4 hb; replace HO_6 := rB HO_6 hb; replace HO_312000 := Aside0.mk (Kd.Q_below (by (with_reducible repeat (first | apply Kd.Q_alloc | apply Kd.Q_drewN | apply Kd.Q_drew)); exact HO_312000.out) hb); replace HO_312001 := rB HO_312001 hb; replace HO324 := rB HO324 hb; replace BK311 := kB BK311 hb; replace HB := bS HB hb; (try clear hb); (try clear hb2); (try clear hk); (try clear hi); (try clear ho0); have hcz34_0 := zc0 BK311; have hcz34_1 := zc1 BK311; have hfz34_0 := blk_frozen BK311.out 0; have hfz34_1 := blk_frozen BK311.out 1) | (go_at_call 14; (with_reducible refine (impl_PermCycles.calls kj5 _ _ t305 t330 t331 _ ?side1 ?side2 A29.out).mono ?_); (case side1 => exact cP (Kd.Q_reads' HO_312000.out).2.2); (case side2 => exact (Kd.Q_reads' HO_312000.out).2.1); rintro e w35 ⟨v332, rfl, ho0, hb⟩; have HO333 := Aside0.mk (Kd.S_lower (Kd.S_new' (Kd.S_new' (Kd.S_new' (Kd.S_new' (Kd.S_new' (Kd.S_new' ho0 (Kd.R_lt (rP HO_4))) (Kd.R_lt (rP HO_6))) (Kd.Q_lt (by (with_reducible repeat (first | apply Kd.Q_alloc | apply Kd.Q_drewN | apply Kd.Q_drew)); exact HO_312000.out))) (Kd.R_lt (rP HO_312001))) (Kd.R_lt (rP HO324))) (Kd.S_lt (by (with_reducible repeat (first | apply Kd.S_alloc | apply Kd.S_drewN | apply Kd.S_drew)); exact HO329.out))) (below_size (bP HB))); replace HO_4 := rB HO_4 hb; replace HO_6 := rB HO_6 hb; replace HO_312000 := Aside0.mk (Kd.Q_below (by (with_reducible repeat (first | apply Kd.Q_alloc | apply Kd.Q_drewN | apply Kd.Q_drew)); exact HO_312000.out) hb); replace HO_312001 := rB HO_312001 hb; replace HO324 := rB HO324 hb; replace HO329 := Aside0.mk (Kd.S_elder' (by (with_reducible repeat (first | apply Kd.S_alloc | apply Kd.S_drewN | apply Kd.S_drew)); exact HO329.out) (Kd.S_base ho0) hb); replace BK311 := kB BK311 hb; replace HB := bS HB hb; (try clear hb); (try clear hb2); (try clear hk); (try clear hi); (try clear ho0))); try go_wp2_with (first | (go_at_call 13; (with_reducible refine (impl_MapCounts.calls kj5 _ _ t305 _ _ t308 t322 t325 _ ?side1 ?side2 ?side3 ?side4 A27.out).mono ?_); (case side1 => exact cP (Kd.Q_reads' HO_312000.out).2.2); (case side2 => exact (Kd.Q_reads' HO_312000.out).2.1); (case side3 => exact cP (Kd.R_reads' HO_312001.out).2.2); (case side4 => exact (Kd.R_reads' HO_312001.out).2.1); rintro e w31 ⟨v323, rfl, ho0, hb⟩; have HO324 := Aside0.mk (Kd.R_lower (Kd.R_new' (Kd.R_new' (Kd.R_new' (Kd.R_new' ho0 (Kd.R_lt (rP HO_4))) (Kd.R_lt (rP HO_6))) (Kd.Q_lt (by (with_reducible repeat (first | apply Kd.Q_alloc | apply Kd.Q_drewN | apply Kd.Q_drew)); exact HO_312000.out))) (Kd.R_lt (rP HO_312001))) (below_size (bP HB))); replace HO_4 := Aside0.mk (Kd.R_elder' (rP HO_4) (Kd.R_base ho0) hb); replace HO_6 := Aside0.mk (Kd.R_elder' (rP HO_6) (Kd.R_base ho0) hb); replace HO_312000 := Aside0.mk (Kd.Q_elder' (by (with_reducible repeat (first | apply Kd.Q_alloc | apply Kd.Q_drewN | apply Kd.Q_drew)); exact HO_312000.out) (Kd.R_base ho0) hb); replace HO_312001 := Aside0.mk (Kd.R_elder' (rP HO_312001) (Kd.R_base ho0) hb); replace BK311 := kB BK311 hb; replace HB := bS HB hb; (try clear hb); (try clear hb2); (try clear hk); (try clear hi); (try clear ho0); obtain ⟨Ao32, co32, eo32⟩ := Kd.R_slice HO_4.out; subst eo32) | (go_at_call 14; (with_reducible refine (impl_PermCycles.calls kj5 _ _ t312 t326 t327 _ ?side1 ?side2 A28.out).mono ?_); (case side1 => exact cP (Kd.R_reads' HO_4.out).2.2); (case side2 => exact (Kd.R_reads' HO_4.out).2.1); rintro e w33 ⟨v328, rfl, ho0, hb⟩; have HO329 := Aside0.mk (Kd.S_lower (Kd.S_new' (Kd.S_new' (Kd.S_new' (Kd.S_new' (Kd.S_new' ho0 (Kd.R_lt (rP HO_4))) (Kd.R_lt (rP HO_6))) (Kd.Q_lt (by (with_reducible repeat (first | apply Kd.Q_alloc | apply Kd.Q_drewN | apply Kd.Q_drew)); exact HO_312000.out))) (Kd.R_lt (rP HO_312001))) (Kd.R_lt (rP HO324))) (below_size (bP HB))); replace HO_4 := rB HO_4 hb; replace HO_6 := rB HO_6 hb; replace HO_312000 := Aside0.mk (Kd.Q_below (by (with_reducible repeat (first | apply Kd.Q_alloc | apply Kd.Q_drewN | apply Kd.Q_drew)); exact HO_312000.out) hb); replace HO_312001 := rB HO_312001 hb; replace HO324 := rB HO324 hb; replace BK311 := kB BK311 hb; replace HB := bS HB hb; (try clear hb); (try clear hb2); (try clear hk); (try clear hi); (try clear ho0); have hcz34_0 := zc0 BK311; have hcz34_1 := zc1 BK311; have hfz34_0 := blk_frozen BK311.out 0; have hfz34_1 := blk_frozen BK311.out 1) | (go_at_call 14; (with_reducible refine (impl_PermCycles.calls kj5 _ _ t305 t330 t331 _ ?side1 ?side2 A29.out).mono ?_); (case side1 => exact cP (Kd.Q_reads' HO_312000.out).2.2); (case side2 => exact (Kd.Q_reads' HO_312000.out).2.1); rintro e w35 ⟨v332, rfl, ho0, hb⟩; have HO333 := Aside0.mk (Kd.S_lower (Kd.S_new' (Kd.S_new' (Kd.S_new' (Kd.S_new' (Kd.S_new' (Kd.S_new' ho0 (Kd.R_lt (rP HO_4))) (Kd.R_lt (rP HO_6))) (Kd.Q_lt (by (with_reducible repeat (first | apply Kd.Q_alloc | apply Kd.Q_drewN | apply Kd.Q_drew)); exact HO_312000.out))) (Kd.R_lt (rP HO_312001))) (Kd.R_lt (rP HO324))) (Kd.S_lt (by (with_reducible repeat (first | apply Kd.S_alloc | apply Kd.S_drewN | apply Kd.S_drew)); exact HO329.out))) (below_size (bP HB))); replace HO_4 := rB HO_4 hb; replace HO_6 := rB HO_6 hb; replace HO_312000 := Aside0.mk (Kd.Q_below (by (with_reducible repeat (first | apply Kd.Q_alloc | apply Kd.Q_drewN | apply Kd.Q_drew)); exact HO_312000.out) hb); replace HO_312001 := rB HO_312001 hb; replace HO324 := rB HO324 hb; replace HO329 := Aside0.mk (Kd.S_elder' (by (with_reducible repeat (first | apply Kd.S_alloc | apply Kd.S_drewN | apply Kd.S_drew)); exact HO329.out) (Kd.S_base ho0) hb); replace BK311 := kB BK311 hb; replace HB := bS HB hb; (try clear hb); (try clear hb2); (try clear hk); (try clear hi); (try clear ho0))))
     go_loopg [14] kj5 (fun kq v14 w' => ∃ (x14_2 : Int), v14 = .int .i64 x14_2 ∧ Aside0 (laws_FnFaces.l0 kq t312 t322 t325 t326 t327 t330 t331 x14_2 t305 t308 = some r) ∧ Aside0 (kq ≤ kj5) ∧ Aside0 (Kd.R (Kd.int .i64) 3 w' w.heap.size (fun k_ => some k_ ≠ (v323 : Value).ownBlock ∧ oN k_ Ao9 t305 co9 ∧ oN k_ Ao11 t308 co11) (.slice Ao32 t312.length co32) t312) ∧ Aside0 (Kd.R (Kd.int .i64) 3 w' w.heap.size (fun k_ => oN k_ Ao32 t312 co32 ∧ oN k_ Ao9 t305 co9 ∧ oN k_ Ao11 t308 co11) v323 t322) ∧ Aside0 (Kd.S (Kd.slice 3 (Kd.int .i64)) 23 w' w.heap.size (fun k_ => oN k_ Ao32 t312 co32 ∧ some k_ ≠ (v323 : Value).ownBlock ∧ some k_ ≠ (v332 : Value).ownBlock ∧ oN k_ Ao9 t305 co9 ∧ oN k_ Ao11 t308 co11) v328 t326) ∧ Aside0 (Kd.S (Kd.slice 3 (Kd.int .i64)) 23 w' w.heap.size (fun k_ => oN k_ Ao32 t312 co32 ∧ some k_ ≠ (v323 : Value).ownBlock ∧ some k_ ≠ (v328 : Value).ownBlock ∧ oN k_ Ao9 t305 co9 ∧ oN k_ Ao11 t308 co11) v332 t330) ∧ Aside0 (Kd.Q (Kd.int .i64) 3 w' w.heap.size (fun k_ => oN k_ Ao32 t312 co32 ∧ some k_ ≠ (v323 : Value).ownBlock ∧ oN k_ Ao11 t308 co11) (.slice Ao9 t305.length co9) t305) ∧ Aside0 (Kd.R (Kd.int .i64) 3 w' w.heap.size (fun k_ => oN k_ Ao32 t312 co32 ∧ some k_ ≠ (v323 : Value).ownBlock ∧ oN k_ Ao9 t305 co9) (.slice Ao11 t308.length co11) t308) ∧ Aside0 (w'.heap[gb311]? = some (.cells #[(.slice Ao9 t305.length co9), (.slice Ao11 t308.length co11)] 25 (0, 0))) ∧ Aside0 (Below w.heap.size w w'))
     case atStart => exact ⟨(0), eS, H', ⟨Nat.le_refl _⟩, ⟨by (with_reducible repeat (first | apply Kd.R_alloc | apply Kd.R_drewN | apply Kd.R_drew)); exact Kd.R_mono HO_4.out (fun _ hk => ⟨hk.2, ⟨hk.1.2.1, hk.1.2.2⟩⟩)⟩, ⟨by (with_reducible repeat (first | apply Kd.R_alloc | apply Kd.R_drewN | apply Kd.R_drew)); exact Kd.R_mono HO324.out (fun _ hk => ⟨hk.1.1.1.2, ⟨hk.1.2, hk.2⟩⟩)⟩, ⟨by (with_reducible repeat (first | apply Kd.S_alloc | apply Kd.S_drewN | apply Kd.S_drew)); exact Kd.S_mono HO329.out (fun _ hk => ⟨hk.1.1.1.1.1.2, ⟨hk.1.2, ⟨hk.2, ⟨hk.1.1.1.2, hk.1.1.2⟩⟩⟩⟩)⟩, ⟨by (with_reducible repeat (first | apply Kd.S_alloc | apply Kd.S_drewN | apply Kd.S_drew)); exact Kd.S_mono HO333.out (fun _ hk => ⟨hk.1.1.1.1.1.2, ⟨hk.1.2, ⟨hk.2, ⟨hk.1.1.1.2, hk.1.1.2⟩⟩⟩⟩)⟩, ⟨by (with_reducible repeat (first | apply Kd.Q_alloc | apply Kd.Q_drewN | apply Kd.Q_drew)); exact Kd.Q_mono HO_312000.out (fun _ hk => ⟨hk.1.1, ⟨hk.2, hk.1.2.2⟩⟩)⟩, ⟨by (with_reducible repeat (first | apply Kd.R_alloc | apply Kd.R_drewN | apply Kd.R_drew)); exact Kd.R_mono HO_312001.out (fun _ hk => ⟨hk.1.1, ⟨hk.2, hk.1.2.2⟩⟩)⟩, ⟨kP BK311⟩, ⟨bP HB⟩⟩
     case round =>
      clear H'
      try clear c1
      try clear c2
      try clear c2b0
      try clear c2b1
      try clear p2
      try clear c3
      try clear c15
      try clear c15b0
      try clear c15b1
      try clear c15b2
      try clear c17
      try clear c22
      try clear c23
      try clear c23b0
      try clear c23b1
      try clear c23b2
      try clear hcz10_0
      try clear hcz10_1
      try clear hcz13_0
      try clear hcz13_1
      try clear hcz30_0
      try clear hcz30_1
      try clear hcz34_0
      try clear hcz34_1
      try clear hfz10_0
      try clear hfz10_1
      try clear hfz13_0
      try clear hfz13_1
      try clear hfz30_0
      try clear hfz30_1
      try clear hfz34_0
      try clear hfz34_1
      try clear p2
      obtain ⟨x14_2, rfl, HA, HK2, HO_4, HO_8, HO_10, HO_12, HO_312000, HO_312001, BK311, HB⟩ := hrel
      cases gk with
      | zero => exact absurd HA.out (by simp [laws_FnFaces.l0])
      | succ k2 =>
       have H := HA.out
       clear HA
       simp only [laws_FnFaces.l0] at H
       by_cases c36 : x14_2 < (t312.length : Int)
       ·rw [if_pos c36] at H
        have c36b0 : decide (x14_2 < (t312.length : Int)) = true := decide_eq_true c36
        clear c36
        have H' := Aside0.mk H
        clear H
        go_wp2
        repeat (go_quiet (fail); try go_wp2)
        go_loopg [15, 16] k2 (fun kq v15 v16 w' => ∃ (x15_3 : Bool) (x16_3 : Int), v15 = .bool x15_3 ∧ v16 = .int .i64 x16_3 ∧ Aside0 (laws_FnFaces.l1 kq t312 t322 t325 t326 t327 t330 t331 x14_2 x15_3 x16_3 t305 t308 = some r) ∧ Aside0 (kq ≤ k2) ∧ Aside0 (Kd.R (Kd.int .i64) 3 w' w.heap.size (fun k_ => some k_ ≠ (v323 : Value).ownBlock ∧ oN k_ Ao9 t305 co9 ∧ oN k_ Ao11 t308 co11) (.slice Ao32 t312.length co32) t312) ∧ Aside0 (Kd.R (Kd.int .i64) 3 w' w.heap.size (fun k_ => oN k_ Ao32 t312 co32 ∧ oN k_ Ao9 t305 co9 ∧ oN k_ Ao11 t308 co11) v323 t322) ∧ Aside0 (Kd.S (Kd.slice 3 (Kd.int .i64)) 23 w' w.heap.size (fun k_ => oN k_ Ao32 t312 co32 ∧ some k_ ≠ (v323 : Value).ownBlock ∧ some k_ ≠ (v332 : Value).ownBlock ∧ oN k_ Ao9 t305 co9 ∧ oN k_ Ao11 t308 co11) v328 t326) ∧ Aside0 (Kd.S (Kd.slice 3 (Kd.int .i64)) 23 w' w.heap.size (fun k_ => oN k_ Ao32 t312 co32 ∧ some k_ ≠ (v323 : Value).ownBlock ∧ some k_ ≠ (v328 : Value).ownBlock ∧ oN k_ Ao9 t305 co9 ∧ oN k_ Ao11 t308 co11) v332 t330) ∧ Aside0 (Kd.Q (Kd.int .i64) 3 w' w.heap.size (fun k_ => oN k_ Ao32 t312 co32 ∧ some k_ ≠ (v323 : Value).ownBlock ∧ oN k_ Ao11 t308 co11) (.slice Ao9 t305.length co9) t305) ∧ Aside0 (Kd.R (Kd.int .i64) 3 w' w.heap.size (fun k_ => oN k_ Ao32 t312 co32 ∧ some k_ ≠ (v323 : Value).ownBlock ∧ oN k_ Ao9 t305 co9) (.slice Ao11 t308.length co11) t308) ∧ Aside0 (w'.heap[gb311]? = some (.cells #[(.slice Ao9 t305.length co9), (.slice Ao11 t308.length co11)] 25 (0, 0))) ∧ Aside0 (Below w.heap.size w w'))
        case atStart => exact ⟨(false), (0), eS, eS, H', ⟨Nat.le_refl _⟩, ⟨rP HO_4⟩, ⟨rP HO_8⟩, ⟨by (with_reducible repeat (first | apply Kd.S_alloc | apply Kd.S_drewN | apply Kd.S_drew)); exact HO_10.out⟩, ⟨by (with_reducible repeat (first | apply Kd.S_alloc | apply Kd.S_drewN | apply Kd.S_drew)); exact HO_12.out⟩, ⟨by (with_reducible repeat (first | apply Kd.Q_alloc | apply Kd.Q_drewN | apply Kd.Q_drew)); exact HO_312000.out⟩, ⟨rP HO_312001⟩, ⟨kP BK311⟩, ⟨bP HB⟩⟩
        case round =>
         clear H'
         try clear c1
         try clear c2
         try clear c2b0
         try clear c2b1
         try clear p2
         try clear c3
         try clear c15
         try clear c15b0
         try clear c15b1
         try clear c15b2
         try clear c17
         try clear c22
         try clear c23
         try clear c23b0
         try clear c23b1
         try clear c23b2
         try clear c36
         try clear c36b0
         try clear hcz10_0
         try clear hcz10_1
         try clear hcz13_0
         try clear hcz13_1
         try clear hcz30_0
         try clear hcz30_1
         try clear hcz34_0
         try clear hcz34_1
         try clear hfz10_0
         try clear hfz10_1
         try clear hfz13_0
         try clear hfz13_1
         try clear hfz30_0
         try clear hfz30_1
         try clear hfz34_0
         try clear hfz34_1
         try clear p2
         obtain ⟨x15_3, x16_3, rfl, rfl, HA, HK3, HO_4, HO_8, HO_10, HO_12, HO_312000, HO_312001, BK311, HB⟩ := hrel
         cases gk with
         | zero => exact absurd HA.out (by simp [laws_FnFaces.l1])
         | succ k3 =>
          have H := HA.out
          clear HA
          simp only [laws_FnFaces.l1] at H
          by_cases c37 : x16_3 < (t330.length : Int)
          ·rw [if_pos c37] at H
           have c37b0 : decide (x16_3 < (t330.length : Int)) = true := decide_eq_true c37
           clear c37
           by_cases c38 : x15_3 = true
           ·subst c38
            have H1 : (laws_FnFaces.l1 k3 t312 t322 t325 t326 t327 t330 t331 x14_2 true (wrap64 (x16_3 + 1)) t305 t308) = some r := by rw [if_pos rfl] at H; exact H
            clear H
            have H := H1
            clear H1
            have H' := Aside0.mk H
            clear H
            obtain ⟨Ao39, co39, eo39⟩ := Kd.S_slice HO_12.out
            subst eo39
            go_wp2
            repeat (go_quiet (fail); try go_wp2)
            go_roundg k3
            case measure => have := HJ5.out; have := HK2.out; have := HK3.out; omega
            case rel => exact ⟨(true), (wrap64 (x16_3 + 1)), eS, eS, H', ⟨by have := HJ5.out; have := HK2.out; have := HK3.out; omega⟩, ⟨rP HO_4⟩, ⟨rP HO_8⟩, ⟨by (with_reducible repeat (first | apply Kd.S_alloc | apply Kd.S_drewN | apply Kd.S_drew)); exact HO_10.out⟩, ⟨by (with_reducible repeat (first | apply Kd.S_alloc | apply Kd.S_drewN | apply Kd.S_drew)); exact HO_12.out⟩, ⟨by (with_reducible repeat (first | apply Kd.Q_alloc | apply Kd.Q_drewN | apply Kd.Q_drew)); exact HO_312000.out⟩, ⟨rP HO_312001⟩, ⟨kP BK311⟩, ⟨bP HB⟩⟩
           ·replace c38 := Bool.eq_false_iff.mpr c38
            subst c38
            have H1 : (if 0 ≤ x16_3 then (if 0 ≤ x14_2 then (if x14_2 < (t312.length : Int) then ((laws_hasInt.f k3 (rd_L1 t330 x16_3) (rd t312 x14_2)).bind fun t337 => (if t337 = true then (if x14_2 < (t308.length : Int) then ((laws_hasInt.f k3 (rd_L1 t330 x16_3) (rd t308 x14_2)).bind fun t340 => (laws_FnFaces.l1 k3 t312 t322 t325 t326 t327 t330 t331 x14_2 t340 (wrap64 (x16_3 + 1)) t305 t308)) else (none)) else (laws_FnFaces.l1 k3 t312 t322 t325 t326 t327 t330 t331 x14_2 false (wrap64 (x16_3 + 1)) t305 t308))) else (none)) else (none)) else (none)) = some r := by rw [if_neg (show ¬ (false = true) by decide)] at H; exact H
            clear H
            have H := H1
            clear H1
            by_cases c40 : 0 ≤ x16_3
            ·rw [if_pos c40] at H
             have c40b0 : decide (0 ≤ x16_3) = true := decide_eq_true c40
             clear c40
             by_cases c41 : 0 ≤ x14_2
             ·rw [if_pos c41] at H
              have c41b0 : decide (0 ≤ x14_2) = true := decide_eq_true c41
              clear c41
              by_cases c42 : x14_2 < (t312.length : Int)
              ·rw [if_pos c42] at H
               have c42b0 : decide (x14_2 < (t312.length : Int)) = true := decide_eq_true c42
               clear c42
               replace H := Option.bind_eq_some_iff.mp H
               obtain ⟨t337, A430, H⟩ := H
               replace H : (if t337 = true then (if x14_2 < (t308.length : Int) then ((laws_hasInt.f k3 (rd_L1 t330 x16_3) (rd t308 x14_2)).bind fun t340 => (laws_FnFaces.l1 k3 t312 t322 t325 t326 t327 t330 t331 x14_2 t340 (wrap64 (x16_3 + 1)) t305 t308)) else (none)) else (laws_FnFaces.l1 k3 t312 t322 t325 t326 t327 t330 t331 x14_2 false (wrap64 (x16_3 + 1)) t305 t308)) = some r := H
               have A43 := Aside0.mk A430
               clear A430
               by_cases c44 : t337 = true
               ·subst c44
                have H1 : (if x14_2 < (t308.length : Int) then ((laws_hasInt.f k3 (rd_L1 t330 x16_3) (rd t308 x14_2)).bind fun t340 => (laws_FnFaces.l1 k3 t312 t322 t325 t326 t327 t330 t331 x14_2 t340 (wrap64 (x16_3 + 1)) t305 t308)) else (none)) = some r := by rw [if_pos rfl] at H; exact H
                clear H
                have H := H1
                clear H1
                by_cases c45 : x14_2 < (t308.length : Int)
                ·rw [if_pos c45] at H
                 have c45b0 : decide (x14_2 < (t308.length : Int)) = true := decide_eq_true c45
                 clear c45
                 replace H := Option.bind_eq_some_iff.mp H
                 obtain ⟨t340, A460, H⟩ := H
                 replace H : (laws_FnFaces.l1 k3 t312 t322 t325 t326 t327 t330 t331 x14_2 t340 (wrap64 (x16_3 + 1)) t305 t308) = some r := H
                 have A46 := Aside0.mk A460
                 clear A460
                 have H' := Aside0.mk H
                 clear H
                 obtain ⟨Ao47, co47, eo47⟩ := Kd.S_slice HO_12.out
                 subst eo47
                 have p335 : 0 ≤ (x16_3 : Int) := dT
                 have q335 : x16_3 < (t330.length : Int) := dT
                 obtain ⟨ad335, A335_0, c335_0, e335, hx335_0, hl335_0, hi335_0⟩ := at_L1 (Kd.S_reads' HO_12.out).2.2 x16_3 p335 q335
                 cases e335
                 obtain ⟨ce335, hce335, hMe335, hcc335⟩ := Kd.S_get HO_12.out [] x16_3 p335 (by first | exact q335 | exact dT | (have e_ := (Kd.S_reads' HO_12.out).1; omega))
                 obtain ⟨ve335_0, rfl, ge335_0⟩ := hMe335
                 have hv335_0 := hcc335 0 _ rfl
                 rw [Nat.add_zero, show ((Kd.slice 3 (Kd.int .i64))).sz = 1 from rfl, Nat.mul_one] at hv335_0
                 replace hv335_0 := Option.some.inj (hv335_0.symm.trans hx335_0)
                 rw [hv335_0] at ge335_0
                 have HL335_0 := Aside0.mk (show Kd.R (Kd.int .i64) 3 _ _ _ _ (rd_L1 t330 x16_3) from ge335_0)
                 clear hv335_0 ge335_0
                 clear hcc335 hce335
                 have HR335_0 := Aside0.mk hi335_0
                 have HC335_0 := Aside0.mk hl335_0
                 clear hi335_0 hl335_0
                 replace p335 := eq_true p335
                 replace q335 := eq_true q335
                 have p336 : 0 ≤ (x14_2 : Int) := dT
                 have q336 : x14_2 < (t312.length : Int) := dT
                 obtain ⟨ad336, e336, hx336_0⟩ := Kd.at_int (Kd.R_reads' HO_4.out).2.2 x14_2 p336 q336
                 cases e336
                 replace p336 := eq_true p336
                 replace q336 := eq_true q336
                 go_wp2_with (first | (go_at_call 15; (with_reducible refine (laws_hasInt.calls k3 _ _ (rd_L1 t330 x16_3) (rd t312 x14_2) true _ ?side1 ?side2 A43.out).mono ?_); (case side1 => exact cP (by repeat (first | (with_reducible exact HR335_0.out) | (with_reducible refine Kd.C_alloc ?_ _) | (with_reducible refine Kd.C_drewN ?_ _) | (with_reducible refine Kd.C_drew ?_) | exact HR335_0.out))); (case side2 => exact HC335_0.out); rintro e w' ⟨rfl, ⟨nd, rfl⟩⟩; (try first | exact ⟨rfl, _, World.drewN_drewN _ _ _⟩ | exact ⟨rfl, _, Eq.trans (World.drewN_drewN _ _ _) (congrArg (World.drewN _) (Nat.add_assoc _ _ _))⟩); have p338 : 0 ≤ (x16_3 : Int) := dT; have q338 : x16_3 < (t330.length : Int) := dT; obtain ⟨ad338, A338_0, c338_0, e338, hx338_0, hl338_0, hi338_0⟩ := at_L1 (Kd.S_reads' HO_12.out).2.2 x16_3 p338 q338; obtain rfl : ad335 = ad338 := (by injection e338); obtain ⟨ce338, hce338, hMe338, hcc338⟩ := Kd.S_get HO_12.out [] x16_3 p338 (by first | exact q338 | exact dT | (have e_ := (Kd.S_reads' HO_12.out).1; omega)); obtain ⟨ve338_0, rfl, ge338_0⟩ := hMe338; have hv338_0 := hcc338 0 _ rfl; rw [Nat.add_zero, show ((Kd.slice 3 (Kd.int .i64))).sz = 1 from rfl, Nat.mul_one] at hv338_0; replace hv338_0 := Option.some.inj (hv338_0.symm.trans hx338_0); rw [hv338_0] at ge338_0; have HL338_0 := Aside0.mk (show Kd.R (Kd.int .i64) 3 _ _ _ _ (rd_L1 t330 x16_3) from ge338_0); clear hv338_0 ge338_0; clear hcc338 hce338; have HR338_0 := Aside0.mk hi338_0; have HC338_0 := Aside0.mk hl338_0; clear hi338_0 hl338_0; replace p338 := eq_true p338; replace q338 := eq_true q338; have ea_ := Option.some.inj (hx335_0.symm.trans hx338_0); injection ea_ with ea_ en_ ec_; subst ea_; subst ec_; clear en_; have hcz48_0 := zc0 BK311; have hcz48_1 := zc1 BK311; have hfz48_0 := blk_frozen BK311.out 0; have hfz48_1 := blk_frozen BK311.out 1; have p339 : 0 ≤ (x14_2 : Int) := dT; have q339 : x14_2 < (t308.length : Int) := dT; obtain ⟨ad339, e339, hx339_0⟩ := Kd.at_int (Kd.R_reads' HO_312001.out).2.2 x14_2 p339 q339; cases e339; replace p339 := eq_true p339; replace q339 := eq_true q339) | (go_at_call 15; (with_reducible refine (laws_hasInt.calls k3 _ _ (rd_L1 t330 x16_3) (rd t308 x14_2) t340 _ ?side1 ?side2 A46.out).mono ?_); (case side1 => exact cP (by repeat (first | (with_reducible exact HR338_0.out) | (with_reducible refine Kd.C_alloc ?_ _) | (with_reducible refine Kd.C_drewN ?_ _) | (with_reducible refine Kd.C_drew ?_) | exact HR338_0.out))); (case side2 => exact HC338_0.out); rintro e w' ⟨rfl, ⟨nd, rfl⟩⟩; (try first | exact ⟨rfl, _, World.drewN_drewN _ _ _⟩ | exact ⟨rfl, _, Eq.trans (World.drewN_drewN _ _ _) (congrArg (World.drewN _) (Nat.add_assoc _ _ _))⟩)))
                 repeat (go_quiet (first | (go_at_call 15; (with_reducible refine (laws_hasInt.calls k3 _ _ (rd_L1 t330 x16_3) (rd t312 x14_2) true _ ?side1 ?side2 A43.out).mono ?_); (case side1 => exact cP (by repeat (first | (with_reducible exact HR335_0.out) | (with_reducible refine Kd.C_alloc ?_ _) | (with_reducible refine Kd.C_drewN ?_ _) | (with_reducible refine Kd.C_drew ?_) | exact HR335_0.out))); (case side2 => exact HC335_0.out); rintro e w' ⟨rfl, ⟨nd, rfl⟩⟩; (try first | exact ⟨rfl, _, World.drewN_drewN _ _ _⟩ | exact ⟨rfl, _, Eq.trans (World.drewN_drewN _ _ _) (congrArg (World.drewN _) (Nat.add_assoc _ _ _))⟩); have p338 : 0 ≤ (x16_3 : Int) := dT; have q338 : x16_3 < (t330.length : Int) := dT; obtain ⟨ad338, A338_0, c338_0, e338, hx338_0, hl338_0, hi338_0⟩ := at_L1 (Kd.S_reads' HO_12.out).2.2 x16_3 p338 q338; obtain rfl : ad335 = ad338 := (by injection e338); obtain ⟨ce338, hce338, hMe338, hcc338⟩ := Kd.S_get HO_12.out [] x16_3 p338 (by first | exact q338 | exact dT | (have e_ := (Kd.S_reads' HO_12.out).1; omega)); obtain ⟨ve338_0, rfl, ge338_0⟩ := hMe338; have hv338_0 := hcc338 0 _ rfl; rw [Nat.add_zero, show ((Kd.slice 3 (Kd.int .i64))).sz = 1 from rfl, Nat.mul_one] at hv338_0; replace hv338_0 := Option.some.inj (hv338_0.symm.trans hx338_0); rw [hv338_0] at ge338_0; have HL338_0 := Aside0.mk (show Kd.R (Kd.int .i64) 3 _ _ _ _ (rd_L1 t330 x16_3) from ge338_0); clear hv338_0 ge338_0; clear hcc338 hce338; have HR338_0 := Aside0.mk hi338_0; have HC338_0 := Aside0.mk hl338_0; clear hi338_0 hl338_0; replace p338 := eq_true p338; replace q338 := eq_true q338; have ea_ := Option.some.inj (hx335_0.symm.trans hx338_0); injection ea_ with ea_ en_ ec_; subst ea_; subst ec_; clear en_; have hcz48_0 := zc0 BK311; have hcz48_1 := zc1 BK311; have hfz48_0 := blk_frozen BK311.out 0; have hfz48_1 := blk_frozen BK311.out 1; have p339 : 0 ≤ (x14_2 : Int) := dT; have q339 : x14_2 < (t308.length : Int) := dT; obtain ⟨ad339, e339, hx339_0⟩ := Kd.at_int (Kd.R_reads' HO_312001.out).2.2 x14_2 p339 q339; cases e339; replace p339 := eq_true p339; replace q339 := eq_true q339) | (go_at_call 15; (with_reducible refine (laws_hasInt.calls k3 _ _ (rd_L1 t330 x16_3) (rd t308 x14_2) t340 _ ?side1 ?side2 A46.out).mono ?_); (case side1 => exact cP (by repeat (first | (with_reducible exact HR338_0.out) | (with_reducible refine Kd.C_alloc ?_ _) | (with_reducible refine Kd.C_drewN ?_ _) | (with_reducible refine Kd.C_drew ?_) | exact HR338_0.out))); (case side2 => exact HC338_0.out); rintro e w' ⟨rfl, ⟨nd, rfl⟩⟩; (try first | exact ⟨rfl, _, World.drewN_drewN _ _ _⟩ | exact ⟨rfl, _, Eq.trans (World.drewN_drewN _ _ _) (congrArg (World.drewN _) (Nat.add_assoc _ _ _))⟩))); try go_wp2_with (first | (go_at_call 15; (with_reducible refine (laws_hasInt.calls k3 _ _ (rd_L1 t330 x16_3) (rd t312 x14_2) true _ ?side1 ?side2 A43.out).mono ?_); (case side1 => exact cP (by repeat (first | (with_reducible exact HR335_0.out) | (with_reducible refine Kd.C_alloc ?_ _) | (with_reducible refine Kd.C_drewN ?_ _) | (with_reducible refine Kd.C_drew ?_) | exact HR335_0.out))); (case side2 => exact HC335_0.out); rintro e w' ⟨rfl, ⟨nd, rfl⟩⟩; (try first | exact ⟨rfl, _, World.drewN_drewN _ _ _⟩ | exact ⟨rfl, _, Eq.trans (World.drewN_drewN _ _ _) (congrArg (World.drewN _) (Nat.add_assoc _ _ _))⟩); have p338 : 0 ≤ (x16_3 : Int) := dT; have q338 : x16_3 < (t330.length : Int) := dT; obtain ⟨ad338, A338_0, c338_0, e338, hx338_0, hl338_0, hi338_0⟩ := at_L1 (Kd.S_reads' HO_12.out).2.2 x16_3 p338 q338; obtain rfl : ad335 = ad338 := (by injection e338); obtain ⟨ce338, hce338, hMe338, hcc338⟩ := Kd.S_get HO_12.out [] x16_3 p338 (by first | exact q338 | exact dT | (have e_ := (Kd.S_reads' HO_12.out).1; omega)); obtain ⟨ve338_0, rfl, ge338_0⟩ := hMe338; have hv338_0 := hcc338 0 _ rfl; rw [Nat.add_zero, show ((Kd.slice 3 (Kd.int .i64))).sz = 1 from rfl, Nat.mul_one] at hv338_0; replace hv338_0 := Option.some.inj (hv338_0.symm.trans hx338_0); rw [hv338_0] at ge338_0; have HL338_0 := Aside0.mk (show Kd.R (Kd.int .i64) 3 _ _ _ _ (rd_L1 t330 x16_3) from ge338_0); clear hv338_0 ge338_0; clear hcc338 hce338; have HR338_0 := Aside0.mk hi338_0; have HC338_0 := Aside0.mk hl338_0; clear hi338_0 hl338_0; replace p338 := eq_true p338; replace q338 := eq_true q338; have ea_ := Option.some.inj (hx335_0.symm.trans hx338_0); injection ea_ with ea_ en_ ec_; subst ea_; subst ec_; clear en_; have hcz48_0 := zc0 BK311; have hcz48_1 := zc1 BK311; have hfz48_0 := blk_frozen BK311.out 0; have hfz48_1 := blk_frozen BK311.out 1; have p339 : 0 ≤ (x14_2 : Int) := dT; have q339 : x14_2 < (t308.length : Int) := dT; obtain ⟨ad339, e339, hx339_0⟩ := Kd.at_int (Kd.R_reads' HO_312001.out).2.2 x14_2 p339 q339; cases e339; replace p339 := eq_true p339; replace q339 := eq_true q339) | (go_at_call 15; (with_reducible refine (laws_hasInt.calls k3 _ _ (rd_L1 t330 x16_3) (rd t308 x14_2) t340 _ ?side1 ?side2 A46.out).mono ?_); (case side1 => exact cP (by repeat (first | (with_reducible exact HR338_0.out) | (with_reducible refine Kd.C_alloc ?_ _) | (with_reducible refine Kd.C_drewN ?_ _) | (with_reducible refine Kd.C_drew ?_) | exact HR338_0.out))); (case side2 => exact HC338_0.out); rintro e w' ⟨rfl, ⟨nd, rfl⟩⟩; (try first | exact ⟨rfl, _, World.drewN_drewN _ _ _⟩ | exact ⟨rfl, _, Eq.trans (World.drewN_drewN _ _ _) (congrArg (World.drewN _) (Nat.add_assoc _ _ _))⟩))))
                 go_roundg k3
                 case measure => have := HJ5.out; have := HK2.out; have := HK3.out; omega
                 case rel => exact ⟨(t340), (wrap64 (x16_3 + 1)), eS, eS, H', ⟨by have := HJ5.out; have := HK2.out; have := HK3.out; omega⟩, ⟨rP HO_4⟩, ⟨rP HO_8⟩, ⟨by (with_reducible repeat (first | apply Kd.S_alloc | apply Kd.S_drewN | apply Kd.S_drew)); exact HO_10.out⟩, ⟨by (with_reducible repeat (first | apply Kd.S_alloc | apply Kd.S_drewN | apply Kd.S_drew)); exact HO_12.out⟩, ⟨by (with_reducible repeat (first | apply Kd.Q_alloc | apply Kd.Q_drewN | apply Kd.Q_drew)); exact HO_312000.out⟩, ⟨rP HO_312001⟩, ⟨kP BK311⟩, ⟨bP HB⟩⟩
                ·rw [if_neg c45] at H
                 exact absurd H (by simp)
               ·replace c44 := Bool.eq_false_iff.mpr c44
                subst c44
                have H1 : (laws_FnFaces.l1 k3 t312 t322 t325 t326 t327 t330 t331 x14_2 false (wrap64 (x16_3 + 1)) t305 t308) = some r := by rw [if_neg (show ¬ (false = true) by decide)] at H; exact H
                clear H
                have H := H1
                clear H1
                have H' := Aside0.mk H
                clear H
                obtain ⟨Ao49, co49, eo49⟩ := Kd.S_slice HO_12.out
                subst eo49
                have p335 : 0 ≤ (x16_3 : Int) := dT
                have q335 : x16_3 < (t330.length : Int) := dT
                obtain ⟨ad335, A335_0, c335_0, e335, hx335_0, hl335_0, hi335_0⟩ := at_L1 (Kd.S_reads' HO_12.out).2.2 x16_3 p335 q335
                cases e335
                obtain ⟨ce335, hce335, hMe335, hcc335⟩ := Kd.S_get HO_12.out [] x16_3 p335 (by first | exact q335 | exact dT | (have e_ := (Kd.S_reads' HO_12.out).1; omega))
                obtain ⟨ve335_0, rfl, ge335_0⟩ := hMe335
                have hv335_0 := hcc335 0 _ rfl
                rw [Nat.add_zero, show ((Kd.slice 3 (Kd.int .i64))).sz = 1 from rfl, Nat.mul_one] at hv335_0
                replace hv335_0 := Option.some.inj (hv335_0.symm.trans hx335_0)
                rw [hv335_0] at ge335_0
                have HL335_0 := Aside0.mk (show Kd.R (Kd.int .i64) 3 _ _ _ _ (rd_L1 t330 x16_3) from ge335_0)
                clear hv335_0 ge335_0
                clear hcc335 hce335
                have HR335_0 := Aside0.mk hi335_0
                have HC335_0 := Aside0.mk hl335_0
                clear hi335_0 hl335_0
                replace p335 := eq_true p335
                replace q335 := eq_true q335
                have p336 : 0 ≤ (x14_2 : Int) := dT
                have q336 : x14_2 < (t312.length : Int) := dT
                obtain ⟨ad336, e336, hx336_0⟩ := Kd.at_int (Kd.R_reads' HO_4.out).2.2 x14_2 p336 q336
                cases e336
                replace p336 := eq_true p336
                replace q336 := eq_true q336
                go_wp2_with (first | (go_at_call 15; (with_reducible refine (laws_hasInt.calls k3 _ _ (rd_L1 t330 x16_3) (rd t312 x14_2) false _ ?side1 ?side2 A43.out).mono ?_); (case side1 => exact cP (by repeat (first | (with_reducible exact HR335_0.out) | (with_reducible refine Kd.C_alloc ?_ _) | (with_reducible refine Kd.C_drewN ?_ _) | (with_reducible refine Kd.C_drew ?_) | exact HR335_0.out))); (case side2 => exact HC335_0.out); rintro e w' ⟨rfl, ⟨nd, rfl⟩⟩; (try first | exact ⟨rfl, _, World.drewN_drewN _ _ _⟩ | exact ⟨rfl, _, Eq.trans (World.drewN_drewN _ _ _) (congrArg (World.drewN _) (Nat.add_assoc _ _ _))⟩)))
                repeat (go_quiet (first | (go_at_call 15; (with_reducible refine (laws_hasInt.calls k3 _ _ (rd_L1 t330 x16_3) (rd t312 x14_2) false _ ?side1 ?side2 A43.out).mono ?_); (case side1 => exact cP (by repeat (first | (with_reducible exact HR335_0.out) | (with_reducible refine Kd.C_alloc ?_ _) | (with_reducible refine Kd.C_drewN ?_ _) | (with_reducible refine Kd.C_drew ?_) | exact HR335_0.out))); (case side2 => exact HC335_0.out); rintro e w' ⟨rfl, ⟨nd, rfl⟩⟩; (try first | exact ⟨rfl, _, World.drewN_drewN _ _ _⟩ | exact ⟨rfl, _, Eq.trans (World.drewN_drewN _ _ _) (congrArg (World.drewN _) (Nat.add_assoc _ _ _))⟩))); try go_wp2_with (first | (go_at_call 15; (with_reducible refine (laws_hasInt.calls k3 _ _ (rd_L1 t330 x16_3) (rd t312 x14_2) false _ ?side1 ?side2 A43.out).mono ?_); (case side1 => exact cP (by repeat (first | (with_reducible exact HR335_0.out) | (with_reducible refine Kd.C_alloc ?_ _) | (with_reducible refine Kd.C_drewN ?_ _) | (with_reducible refine Kd.C_drew ?_) | exact HR335_0.out))); (case side2 => exact HC335_0.out); rintro e w' ⟨rfl, ⟨nd, rfl⟩⟩; (try first | exact ⟨rfl, _, World.drewN_drewN _ _ _⟩ | exact ⟨rfl, _, Eq.trans (World.drewN_drewN _ _ _) (congrArg (World.drewN _) (Nat.add_assoc _ _ _))⟩))))
                go_roundg k3
                case measure => have := HJ5.out; have := HK2.out; have := HK3.out; omega
                case rel => exact ⟨(false), (wrap64 (x16_3 + 1)), eS, eS, H', ⟨by have := HJ5.out; have := HK2.out; have := HK3.out; omega⟩, ⟨rP HO_4⟩, ⟨rP HO_8⟩, ⟨by (with_reducible repeat (first | apply Kd.S_alloc | apply Kd.S_drewN | apply Kd.S_drew)); exact HO_10.out⟩, ⟨by (with_reducible repeat (first | apply Kd.S_alloc | apply Kd.S_drewN | apply Kd.S_drew)); exact HO_12.out⟩, ⟨by (with_reducible repeat (first | apply Kd.Q_alloc | apply Kd.Q_drewN | apply Kd.Q_drew)); exact HO_312000.out⟩, ⟨rP HO_312001⟩, ⟨kP BK311⟩, ⟨bP HB⟩⟩
              ·rw [if_neg c42] at H
               exact absurd H (by simp)
             ·rw [if_neg c41] at H
              exact absurd H (by simp)
            ·rw [if_neg c40] at H
             exact absurd H (by simp)
          ·rw [if_neg c37] at H
           have c37b0 : decide (x16_3 < (t330.length : Int)) = false := decide_eq_false c37
           clear c37
           by_cases c50 : x15_3 = true
           ·subst c50
            have H1 : (laws_FnFaces.l0 k3 t312 t322 t325 t326 t327 t330 t331 (wrap64 (x14_2 + 1)) t305 t308) = some r := by rw [if_pos rfl] at H; exact H
            clear H
            have H := H1
            clear H1
            have H' := Aside0.mk H
            clear H
            obtain ⟨Ao51, co51, eo51⟩ := Kd.S_slice HO_12.out
            subst eo51
            go_wp2
            repeat (go_quiet (fail); try go_wp2)
            go_roundg k3
            case measure => have := HJ5.out; have := HK2.out; have := HK3.out; omega
            case rel => exact ⟨(wrap64 (x14_2 + 1)), eS, H', ⟨by have := HJ5.out; have := HK2.out; have := HK3.out; omega⟩, ⟨rP HO_4⟩, ⟨rP HO_8⟩, ⟨by (with_reducible repeat (first | apply Kd.S_alloc | apply Kd.S_drewN | apply Kd.S_drew)); exact HO_10.out⟩, ⟨by (with_reducible repeat (first | apply Kd.S_alloc | apply Kd.S_drewN | apply Kd.S_drew)); exact HO_12.out⟩, ⟨by (with_reducible repeat (first | apply Kd.Q_alloc | apply Kd.Q_drewN | apply Kd.Q_drew)); exact HO_312000.out⟩, ⟨rP HO_312001⟩, ⟨kP BK311⟩, ⟨bP HB⟩⟩
           ·replace c50 := Bool.eq_false_iff.mpr c50
            subst c50
            have H1 : (some false) = some r := by rw [if_neg (show ¬ (false = true) by decide)] at H; exact H
            clear H
            have H := H1
            clear H1
            exact absurd ((Option.some.inj H).trans hr_.out) (by decide)
       ·rw [if_neg c36] at H
        have c36b0 : decide (x14_2 < (t312.length : Int)) = false := decide_eq_false c36
        clear c36
        by_cases c52 : t325 = true
        ·subst c52
         have H1 : (if t327 = true then (if t331 = true then (if 2 < (t322.length : Int) then (some ((t326.length : Int) == (rd t322 2))) else (none)) else (some false)) else (some false)) = some r := by rw [if_pos rfl] at H; exact H
         clear H
         have H := H1
         clear H1
         by_cases c53 : t327 = true
         ·subst c53
          have H1 : (if t331 = true then (if 2 < (t322.length : Int) then (some ((t326.length : Int) == (rd t322 2))) else (none)) else (some false)) = some r := by rw [if_pos rfl] at H; exact H
          clear H
          have H := H1
          clear H1
          by_cases c54 : t331 = true
          ·subst c54
           have H1 : (if 2 < (t322.length : Int) then (some ((t326.length : Int) == (rd t322 2))) else (none)) = some r := by rw [if_pos rfl] at H; exact H
           clear H
           have H := H1
           clear H1
           by_cases c55 : 2 < (t322.length : Int)
           ·rw [if_pos c55] at H
            have c55b0 : decide (2 < (t322.length : Int)) = true := decide_eq_true c55
            have c55b1 : decide (2 < t322.length) = true := decide_eq_true (by omega)
            clear c55
            obtain rfl := Option.some.inj H
            obtain ⟨Ao56, co56, eo56⟩ := Kd.S_slice HO_10.out
            subst eo56
            obtain ⟨Ao57, co57, eo57⟩ := Kd.R_slice HO_8.out
            subst eo57
            have p334 : 0 ≤ (2 : Int) := (by omega)
            have q334 : 2 < (t322.length : Int) := dT
            obtain ⟨ad334, e334, hx334_0⟩ := Kd.at_int (Kd.R_reads' HO_8.out).2.2 2 p334 q334
            cases e334
            (try simp only [show (2 : Int).toNat = 2 from rfl, Nat.reduceMul, Nat.reduceEqDiff, Go.Addr.add, ↓reduceIte] at hx334_0)
            have qi334 : (2 < t322.length) = True := eq_true (by omega)
            (try rw [show ((2 : Int)).toNat = 2 from rfl] at hx334_0)
            replace p334 := eq_true p334
            replace q334 := eq_true q334
            go_wp2
            repeat (go_quiet (fail); try go_wp2)
            go_ret
            exact ⟨eR, bP HB⟩
           ·rw [if_neg c55] at H
            exact absurd H (by simp)
          ·replace c54 := Bool.eq_false_iff.mpr c54
           subst c54
           have H1 : (some false) = some r := by rw [if_neg (show ¬ (false = true) by decide)] at H; exact H
           clear H
           have H := H1
           clear H1
           exact absurd ((Option.some.inj H).trans hr_.out) (by decide)
         ·replace c53 := Bool.eq_false_iff.mpr c53
          subst c53
          have H1 : (some false) = some r := by rw [if_neg (show ¬ (false = true) by decide)] at H; exact H
          clear H
          have H := H1
          clear H1
          exact absurd ((Option.some.inj H).trans hr_.out) (by decide)
        ·replace c52 := Bool.eq_false_iff.mpr c52
         subst c52
         have H1 : (some false) = some r := by rw [if_neg (show ¬ (false = true) by decide)] at H; exact H
         clear H
         have H := H1
         clear H1
         exact absurd ((Option.some.inj H).trans hr_.out) (by decide)

/-- THE ONE PURE STATEMENT of laws_FnFaces: yours. -/
def laws_FnFaces.Pure : Prop := ∀ (l0 : List Int), l0.length ≤ maxLen → l0.length * 1 ≤ 140737488351232 → (∀ x ∈ l0, (Lit.int .u8 x).wf = true) → ∃ k, laws_FnFaces.f k l0 = some true
theorem laws_FnFaces.walk (P : laws_FnFaces.Pure) (a0 : Option Addr) (len0 cap0 : Nat) (z0 : List Int) (w : World) (w0 : (a0 = none ∧ len0 = 0 ∧ cap0 = 0 ∧ z0 = []) ∨ ∃ x, a0 = some x ∧ len0 ≤ cap0 ∧ cap0 ≤ maxLen ∧ z0.length = cap0 ∧ (∀ i, i < z0.length → w.cell? (x.add i) = some (.int .u8 (z0.getD i 0))) ∧ ∀ n ∈ z0, (Lit.int .u8 n).wf = true) (y0 : len0 * 1 ≤ 140737488351232) :
 Calls Try.prog 3 #[.slice a0 len0 cap0] w fun e w' => e = .returned (.bool true) ∧ Below w.heap.size w w' := by
 obtain ⟨l0, rfl, hr0, hm0, hw0, hc0⟩ := ReadsInt.ofRowC w0
 obtain ⟨k, h⟩ := P l0 hm0 y0 hw0
 refine (laws_FnFaces.calls k _ _ l0 true w (Kd.C_of_reads (d := (0 : Int)) (h1 := fun _ => rfl) hr0) hc0 ⟨rfl⟩ h).mono ?_
 rintro e w' ⟨rfl, hd⟩
 exact ⟨rfl, hd⟩

end Go.Proofs.Ytihabnfccgjfbaa.F
