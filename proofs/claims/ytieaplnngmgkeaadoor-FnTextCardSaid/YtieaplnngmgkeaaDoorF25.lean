/- Contracts: what these Go functions return. -/
import Derived.Test.YtieaplnngmgkeaaDoorF0
import Derived.Test.YtieaplnngmgkeaaDoorF22
import Derived.Test.YtieaplnngmgkeaaDoorF24
namespace Go.Proofs.YtieaplnngmgkeaaDoor.F
open Go.RowKit Go.Proofs.YtieaplnngmgkeaaDoorW.PrintWords Go.Proofs.YtieaplnngmgkeaaDoorW.PrintLast Go.Proofs.YtieaplnngmgkeaaDoorW.PrintMore
attribute [local go_sem] max2_int min2_int max_two min_two max_three min_three max_four min_four
set_option linter.unusedVariables false
set_option linter.unusedSimpArgs false

/-! ### spec_DrawPermText: function 18 -/
def spec_DrawPermText.f (k : Nat) (l0 : List Int) : Option (List Int) := (spec_l6Open.f l0).bind fun bt342 => ((spec_l91Some.f k bt342.1 bt342.2 12).bind fun bt345 => (some bt345.1))
set_option maxHeartbeats 8000000 in
set_option maxRecDepth 100000 in
theorem spec_DrawPermText.calls (k : Nat) (A0 : Option Addr) (c0 : Nat) (l0 : List Int) (r : List Int) (w : World) (hr0 : Kd.C (Kd.int .u8) w A0 l0.length l0) (hc0 : l0.length ≤ c0) (h : spec_DrawPermText.f k l0 = some r) :
 Calls Tryd.prog 18 #[.slice A0 l0.length c0] w fun e w' => ∃ v0_ : Value, e = .returned (v0_) ∧ Kd.R (Kd.int .i64) 3 w' w.heap.size (fun _ => True) v0_ r ∧ Below w.heap.size w w' := by
 have HR0 := Aside0.mk hr0
 have HC0 := Aside0.mk hc0
 clear hr0 hc0
 have HB := Aside0.mk (Below.refl w.heap.size w)
 have H : ((spec_l6Open.f l0).bind fun bt342 => ((spec_l91Some.f k bt342.1 bt342.2 12).bind fun bt345 => (some bt345.1))) = some r := h
 clear h
 replace H := Option.bind_eq_some_iff.mp H
 obtain ⟨⟨t342, t343⟩, A20, H⟩ := H
 replace H : ((spec_l91Some.f k t342 t343 12).bind fun bt345 => (some bt345.1)) = some r := H
 have A2 := Aside0.mk A20
 clear A20
 replace H := Option.bind_eq_some_iff.mp H
 obtain ⟨⟨t345, t348⟩, A30, H⟩ := H
 replace H : (some t345) = some r := H
 have A3 := Aside0.mk A30
 clear A30
 obtain rfl := Option.some.inj H
 go_enter Tryd.func18, Tryd.ntmps18
 go_wp2_with (first | ((with_reducible refine gate_callee (f := 27) rfl ?_); refine gL (some 4) Tryd.func27 #[.slice A0 l0.length c0] ?_; (with_reducible refine (spec_l6Open.calls _ _ l0 t342 t343 w _ ?side1 ?side2 ?side3 A2.out).mono ?_); (case side1 => exact bP HB); (case side2 => exact HR0.out); (case side3 => exact HC0.out); rintro e w4 ⟨g344, rfl, hi, hb, hb2⟩; refine ⟨_, rfl, ?_⟩; replace HB := Aside0.mk (hb); have HI344 := Aside0.mk (hi); (try clear hb); (try clear hb2); (try clear hk); (try clear hi)) | ((with_reducible refine gate_callee (f := 38) rfl ?_); refine gL (some 5) Tryd.func38 #[.pointer (some ⟨g344, 0, none⟩), .int .i64 12] ?_; (with_reducible refine (spec_l91Some.calls k g344 t342 t343 12 t345 t348 w _ ?side1 ?side2 A3.out).mono ?_); (case side1 => repeat (first | (with_reducible first | exact HI344.out | apply IsS68.alloc | apply IsS68.drewN | apply IsS68.drew | apply IsS68.set_1) | exact HI344.out)); (case side2 => repeat (first | (with_reducible first | exact HB.out | apply below_alloc | apply pw_below_drewN | apply below_drew1 | refine below_set ?_ (IsS68.ge HI344.out)) | exact HB.out)); rintro e w5 ⟨v346, rfl, ho0, hi, hb, hk⟩; refine ⟨_, rfl, ?_⟩; have HO347 := Aside0.mk (Kd.R_lower ho0 (below_size (by repeat (first | (with_reducible first | exact HB.out | apply below_alloc | apply pw_below_drewN | apply below_drew1 | refine below_set ?_ (IsS68.ge HI344.out)) | exact HB.out)))); replace HB := Aside0.mk (hb); replace HI344 := Aside0.mk (hi); (try clear hb); (try clear hb2); (try clear hk); (try clear hi); (try clear ho0)))
 go_ret
 exact ⟨_, eR, rP HO347, by repeat (first | (with_reducible first | exact HB.out | apply below_alloc | apply pw_below_drewN | apply below_drew1 | refine below_set ?_ (IsS68.ge HI344.out)) | exact HB.out)⟩

end Go.Proofs.YtieaplnngmgkeaaDoor.F
