/- Contracts: what each of these Go functions returns, for every argument, whenever its Lean function of the same name answers; written by this session's program over the kit's print. -/
import Derived.Test.YtknkefjleinkkaaF0
import Derived.Test.YtknkefjleinkkaaF1
import Derived.Test.YtknkefjleinkkaaF2
namespace Go.Proofs.Ytknkefjleinkkaa.F
open Go.RowKit Go.Proofs.YtknkefjleinkkaaW.PrintWords Go.Proofs.YtknkefjleinkkaaW.PrintLast Go.Proofs.YtknkefjleinkkaaW.PrintMore
attribute [local go_sem] max2_int min2_int max_two min_two max_three min_three max_four min_four   -- for this text's walks alone
set_option linter.unusedVariables false
set_option linter.unusedSimpArgs false

/-! ### spec_l6Open: function 36 -/
def spec_l6Open.f (l0 : List Int) : Option (List Int × Int) := if (l0.length : Int) > 2000 then (if 2000 ≤ (l0.length : Int) then (some (l0.take 2000, 0)) else (none)) else (some (l0, 0))
set_option maxHeartbeats 8000000 in
set_option maxRecDepth 100000 in
theorem spec_l6Open.calls (A0 : Option Addr) (c0 : Nat) (l0 : List Int) (r1 : List Int) (r2 : Int) (w0 w : World) (hB : Below w0.heap.size w0 w) (hr0 : Kd.C (Kd.int .u8) w0 A0 l0.length l0) (hc0 : l0.length ≤ c0) (h : spec_l6Open.f l0 = some (r1, r2)) :
    Calls Try.prog 36 #[.slice A0 l0.length c0] w fun e w' => ∃ g_ : Nat, e = .returned (.pointer (some ⟨g_, 0, none⟩)) ∧ IsS57 w0 w' g_ r1 r2 ∧ Below w0.heap.size w0 w' ∧ Below w.heap.size w w' := by
  have hu57 := Try.underlying57
  have HR0 := Aside0.mk hr0
  have HC0 := Aside0.mk hc0
  clear hr0 hc0
  have HBW := Aside0.mk (Below.refl w.heap.size w)
  have HW0 := Aside0.mk hB.size
  have HB := Aside0.mk hB
  clear hB
  have H : (if (l0.length : Int) > 2000 then (if 2000 ≤ (l0.length : Int) then (some (l0.take 2000, 0)) else (none)) else (some (l0, 0))) = some (r1, r2) := h
  clear h
  by_cases c2 : (l0.length : Int) > 2000
  · rw [if_pos c2] at H
    have c2b0 : decide (2000 < (l0.length : Int)) = true := decide_eq_true c2
    have c2b1 : decide (2000 < l0.length) = true := decide_eq_true (by omega)
    clear c2
    by_cases c3 : 2000 ≤ (l0.length : Int)
    · rw [if_pos c3] at H
      have c3b0 := eq_true c3
      have c3b1 : decide (2000 ≤ (l0.length : Int)) = true := decide_eq_true c3
      clear c3
      simp only [Option.some.injEq, Prod.mk.injEq] at H
      obtain ⟨rfl, rfl⟩ := H
      obtain ⟨i04, hi04, _, hsz4, _⟩ := info_parts info5
      obtain ⟨hcut4, hA4, hC4⟩ := print_take_of (P := Try.prog) (Value.int .u8) 0 22 5 .i64 Try.underlying22 hi04 hsz4 A0 c0 l0 2000 (by omega) (of_decide_eq_true (by first | (with_reducible assumption) | assumption)) HC0.out
      have HR139 := Aside0.mk (Kd.C_of_reads (h1 := fun _ => rfl) (hA4 _ (Kd.reads_of_C HR0.out)))
      have HC139 := Aside0.mk hC4
      clear hA4 hC4 hi04 hsz4
      go_enter Try.func36, Try.ntmps36
      go_wp2_with (first | ((with_reducible refine gate_dst (N := 10) rfl ?_); refine box_event ?hg (N := 10) ?hd (cs := #[.slice A0 (l0.take 2000).length c0, .int .i64 0]) (t := 57) ?hr ?_; (case hd => rfl); (case hg => rfl); (case hr => first | (go_simp; done) | (go_simp; rfl)); intro gb140 hg w5 hbox hb; have n0_ := Aside0.mk (below_step HBW.out hb); have n1_ := Aside0.mk (below_step (by repeat (first | (with_reducible first | exact HB.out | apply below_alloc | apply pw_below_drewN | apply below_drew1) | exact HB.out)) hb); have n2_ := Aside0.mk (hbox); have n3_ := Aside0.mk ((by rw [hg]; exact (below_size (by repeat (first | (with_reducible first | exact HBW.out | apply below_alloc | apply pw_below_drewN | apply below_drew1) | exact HBW.out))) : w.heap.size ≤ gb140)); have n4_ := Aside0.mk ((Nat.le_trans HW0.out (by rw [hg]; exact (below_size (by repeat (first | (with_reducible first | exact HBW.out | apply below_alloc | apply pw_below_drewN | apply below_drew1) | exact HBW.out))) : w.heap.size ≤ gb140) : w0.heap.size ≤ gb140)); clear HBW; clear HB; have HBW := n0_; have HB := n1_; have BK140 := n2_; have GW140 := n3_; have GE140 := n4_; clear n0_ n1_ n2_ n3_ n4_; clear hb hbox hg))
      go_ret
      exact ⟨_, rfl, (show IsS57 w0 _ gb140 (l0.take 2000) 0 from ⟨_, _, by (with_reducible repeat (first | refine blk_drewN ?_ _ | refine blk_drew ?_ | refine blk_alloc ?_ _)); exact BK140.out, GE140.out, HR139.out⟩), by repeat (first | (with_reducible first | exact HB.out | apply below_alloc | apply pw_below_drewN | apply below_drew1 | refine below_set ?_ GE140.out) | exact HB.out), by repeat (first | (with_reducible first | exact HBW.out | apply below_alloc | apply pw_below_drewN | apply below_drew1 | refine below_set ?_ GW140.out) | exact HBW.out)⟩
    · rw [if_neg c3] at H
      exact absurd H (by simp)
  · rw [if_neg c2] at H
    have c2b0 : decide (2000 < (l0.length : Int)) = false := decide_eq_false c2
    have c2b1 : decide (2000 < l0.length) = false := decide_eq_false (by omega)
    clear c2
    simp only [Option.some.injEq, Prod.mk.injEq] at H
    obtain ⟨rfl, rfl⟩ := H
    go_enter Try.func36, Try.ntmps36
    go_wp2_with (first | ((with_reducible refine gate_dst (N := 10) rfl ?_); refine box_event ?hg (N := 10) ?hd (cs := #[.slice A0 l0.length c0, .int .i64 0]) (t := 57) ?hr ?_; (case hd => rfl); (case hg => rfl); (case hr => first | (go_simp; done) | (go_simp; rfl)); intro gb141 hg w6 hbox hb; have n0_ := Aside0.mk (below_step HBW.out hb); have n1_ := Aside0.mk (below_step (by repeat (first | (with_reducible first | exact HB.out | apply below_alloc | apply pw_below_drewN | apply below_drew1) | exact HB.out)) hb); have n2_ := Aside0.mk (hbox); have n3_ := Aside0.mk ((by rw [hg]; exact (below_size (by repeat (first | (with_reducible first | exact HBW.out | apply below_alloc | apply pw_below_drewN | apply below_drew1) | exact HBW.out))) : w.heap.size ≤ gb141)); have n4_ := Aside0.mk ((Nat.le_trans HW0.out (by rw [hg]; exact (below_size (by repeat (first | (with_reducible first | exact HBW.out | apply below_alloc | apply pw_below_drewN | apply below_drew1) | exact HBW.out))) : w.heap.size ≤ gb141) : w0.heap.size ≤ gb141)); clear HBW; clear HB; have HBW := n0_; have HB := n1_; have BK141 := n2_; have GW141 := n3_; have GE141 := n4_; clear n0_ n1_ n2_ n3_ n4_; clear hb hbox hg))
    go_ret
    exact ⟨_, rfl, (show IsS57 w0 _ gb141 l0 0 from ⟨_, _, by (with_reducible repeat (first | refine blk_drewN ?_ _ | refine blk_drew ?_ | refine blk_alloc ?_ _)); exact BK141.out, GE141.out, HR0.out⟩), by repeat (first | (with_reducible first | exact HB.out | apply below_alloc | apply pw_below_drewN | apply below_drew1 | refine below_set ?_ GE141.out) | exact HB.out), by repeat (first | (with_reducible first | exact HBW.out | apply below_alloc | apply pw_below_drewN | apply below_drew1 | refine below_set ?_ GW141.out) | exact HBW.out)⟩

/-! ### spec_DrawPermSign: function 9 -/
def spec_DrawPermSign.f (k : Nat) (l0 : List Int) : Option (List Int) := (spec_l6Open.f l0).bind fun bt142 => ((spec_l91Some.f k bt142.1 bt142.2 9).bind fun bt145 => (some bt145.1))
theorem spec_DrawPermSign.mono : ∀ a0 k, LeO (spec_DrawPermSign.f k a0) (spec_DrawPermSign.f (k + 1) a0) := by
  intro a0 k
  unfold spec_DrawPermSign.f
  repeat' first
      | (with_reducible exact spec_l91Some.mono _ _ _ _)
      | (with_reducible exact LeO.refl _)
      | (with_reducible exact LeO.none _)
      | (with_reducible refine LeO.ite ?_ ?_)
      | (with_reducible refine LeO.bind ?_ (fun _ => ?_))
      | exact spec_l91Some.mono _ _ _ _
      | exact LeO.none _
      | refine LeO.ite ?_ ?_
      | refine LeO.bind ?_ (fun _ => ?_)
set_option maxHeartbeats 8000000 in
set_option maxRecDepth 100000 in
theorem spec_DrawPermSign.calls (k : Nat) (A0 : Option Addr) (c0 : Nat) (l0 : List Int) (r : List Int) (w : World) (hr0 : Kd.C (Kd.int .u8) w A0 l0.length l0) (hc0 : l0.length ≤ c0) (h : spec_DrawPermSign.f k l0 = some r) :
    Calls Try.prog 9 #[.slice A0 l0.length c0] w fun e w' => ∃ v0_ : Value, e = .returned (v0_) ∧ Kd.R (Kd.int .i64) 3 w' w.heap.size (fun _ => True) v0_ r ∧ Below w.heap.size w w' := by
  have HR0 := Aside0.mk hr0
  have HC0 := Aside0.mk hc0
  clear hr0 hc0
  have HB := Aside0.mk (Below.refl w.heap.size w)
  have H : ((spec_l6Open.f l0).bind fun bt142 => ((spec_l91Some.f k bt142.1 bt142.2 9).bind fun bt145 => (some bt145.1))) = some r := h
  clear h
  replace H := Option.bind_eq_some_iff.mp H
  obtain ⟨⟨t142, t143⟩, A20, H⟩ := H
  replace H : ((spec_l91Some.f k t142 t143 9).bind fun bt145 => (some bt145.1)) = some r := H
  have A2 := Aside0.mk A20
  clear A20
  replace H := Option.bind_eq_some_iff.mp H
  obtain ⟨⟨t145, t148⟩, A30, H⟩ := H
  replace H : (some t145) = some r := H
  have A3 := Aside0.mk A30
  clear A30
  obtain rfl := Option.some.inj H
  go_enter Try.func9, Try.ntmps9
  go_wp2_with (first | ((with_reducible refine gate_callee (f := 36) rfl ?_); refine goesL_ (some 4) rfl rfl Try.func36 (by kernel_rfl) rfl #[.slice A0 l0.length c0] rfl (by (try simp only [List.map_toArray, List.map_cons, List.map_nil]); first | done | rfl | (simp only [List.length_drop, List.length_take]; rfl)) ?_; (with_reducible refine (spec_l6Open.calls _ _ l0 t142 t143 w _ ?side1 ?side2 ?side3 A2.out).mono ?_); (case side1 => repeat (first | (with_reducible first | exact HB.out | apply below_alloc | apply pw_below_drewN | apply below_drew1) | exact HB.out)); (case side2 => exact HR0.out); (case side3 => exact HC0.out); rintro e w4 ⟨g144, rfl, hi, hb, hb2⟩; refine ⟨_, rfl, ?_⟩; have n0_ := Aside0.mk (hb); have n1_ := Aside0.mk (hi); clear HB; have HB := n0_; have HI144 := n1_; clear n0_ n1_; (try clear hb); (try clear hb2); (try clear hk); (try clear hi)) | ((with_reducible refine gate_callee (f := 35) rfl ?_); refine goesL_ (some 5) rfl rfl Try.func35 (by kernel_rfl) rfl #[.pointer (some ⟨g144, 0, none⟩), .int .i64 9] rfl (by (try simp only [List.map_toArray, List.map_cons, List.map_nil]); first | done | rfl | (simp only [List.length_drop, List.length_take]; rfl)) ?_; (with_reducible refine (spec_l91Some.calls k g144 t142 t143 9 t145 t148 w _ ?side1 ?side2 A3.out).mono ?_); (case side1 => repeat (first | (with_reducible first | exact HI144.out | apply IsS57.alloc | apply IsS57.drewN | apply IsS57.drew | apply IsS57.set_1) | exact HI144.out)); (case side2 => repeat (first | (with_reducible first | exact HB.out | apply below_alloc | apply pw_below_drewN | apply below_drew1 | refine below_set ?_ (IsS57.ge HI144.out)) | exact HB.out)); rintro e w5 ⟨v146, rfl, ho0, hi, hb, hk⟩; refine ⟨_, rfl, ?_⟩; have n0_ := Aside0.mk (Kd.R_lower ho0 (below_size (by repeat (first | (with_reducible first | exact HB.out | apply below_alloc | apply pw_below_drewN | apply below_drew1 | refine below_set ?_ (IsS57.ge HI144.out)) | exact HB.out)))); have n1_ := Aside0.mk (hb); have n2_ := Aside0.mk (hi); clear HB; clear HI144; have HO147 := n0_; have HB := n1_; have HI144 := n2_; clear n0_ n1_ n2_; (try clear hb); (try clear hb2); (try clear hk); (try clear hi); (try clear ho0)))
  go_ret
  exact ⟨_, by first | rfl | (simp [errW_none, errW_some] <;> rfl) | (simp [*, errW_none, errW_some] <;> rfl), by (with_reducible repeat (first | apply Kd.R_alloc | apply Kd.R_drewN | apply Kd.R_drew)); exact HO147.out, by repeat (first | (with_reducible first | exact HB.out | apply below_alloc | apply pw_below_drewN | apply below_drew1 | refine below_set ?_ (IsS57.ge HI144.out)) | exact HB.out)⟩

/-! ### impl_PermValid: function 26 -/
/-- the cells of the array of what has been seen -/
def impl_PermValid.seenCells (l : List Int) (i : Nat) : Array Value := ((List.range 12).map fun (j : Nat) => Value.bool ((l.take i).contains (j : Int))).toArray
def impl_PermValid.okAt (l : List Int) (i : Nat) : Bool := decide (0 ≤ rd l i) && decide (rd l i < l.length) && !(l.take i).contains (rd l i)
def impl_PermValid.validB (l : List Int) : Bool := decide (1 ≤ l.length) && decide (l.length ≤ 12) && (List.range l.length).all (impl_PermValid.okAt l)
def impl_PermValid.f (l0 : List Int) : Option Bool := some (impl_PermValid.validB l0)
theorem impl_PermValid.seen_zero (l : List Int) : impl_PermValid.seenCells l 0 = #[Value.bool false, Value.bool false, Value.bool false, Value.bool false, Value.bool false, Value.bool false, Value.bool false, Value.bool false, Value.bool false, Value.bool false, Value.bool false, Value.bool false] := rfl
theorem impl_PermValid.seen_cell (l : List Int) (i : Nat) (x : Nat) (h : x < 12) : (impl_PermValid.seenCells l i)[x]? = some (Value.bool ((l.take i).contains (x : Int))) := by
  unfold impl_PermValid.seenCells
  simp [h]
theorem impl_PermValid.take_snoc (l : List Int) (i : Nat) (h : i < l.length) : l.take (i + 1) = l.take i ++ [rd l i] := by
  rw [List.take_succ_eq_append_getElem h]
  unfold rd
  simp [h]
theorem impl_PermValid.seen_set (l : List Int) (i : Nat) (h : i < l.length) (x : Nat) (hx : rd l i = x) : (impl_PermValid.seenCells l i).setIfInBounds x (Value.bool true) = impl_PermValid.seenCells l (i + 1) := by
  apply Array.ext_getElem?
  intro j
  unfold impl_PermValid.seenCells
  rw [impl_PermValid.take_snoc l i h, hx]
  simp only [List.setIfInBounds_toArray, List.getElem?_toArray, List.getElem?_set, List.length_map, List.length_range]
  by_cases e : x = j
  · subst e
    by_cases hj : x < 12
    · simp [hj]
    · simp [hj]
  · rw [if_neg e]
    by_cases hj : j < 12
    · simp [hj]; omega
    · simp [hj]
theorem impl_PermValid.rd_nat (l : List Int) (i : Nat) : rd l (i : Int) = rd l i := rfl

theorem impl_PermValid.valid_fail (l : List Int) (i : Nat) (h : i < l.length) (hx : impl_PermValid.okAt l i = false) : impl_PermValid.validB l = false := by
  unfold impl_PermValid.validB
  rw [Bool.and_eq_false_iff]
  right
  rw [List.all_eq_false]
  exact ⟨i, by simpa using h, by simp [hx]⟩
theorem impl_PermValid.valid_all (l : List Int) (h1 : 1 ≤ l.length) (h2 : l.length ≤ 12) (h : (List.range l.length).all (impl_PermValid.okAt l) = true) : impl_PermValid.validB l = true := by
  unfold impl_PermValid.validB
  simp [h1, h2, h]
theorem impl_PermValid.all_snoc (l : List Int) (i : Nat) (h : (List.range i).all (impl_PermValid.okAt l) = true) (hx : impl_PermValid.okAt l i = true) : (List.range (i + 1)).all (impl_PermValid.okAt l) = true := by
  rw [List.range_succ, List.all_append, h]
  simp [hx]
theorem impl_PermValid.valid_size (l : List Int) (h : ¬ (1 ≤ l.length ∧ l.length ≤ 12)) : impl_PermValid.validB l = false := by
  unfold impl_PermValid.validB
  by_cases a : 1 ≤ l.length
  · have b : ¬ l.length ≤ 12 := fun b => h ⟨a, b⟩
    simp [b]
  · simp [a]

set_option maxHeartbeats 8000000 in
set_option maxRecDepth 100000 in
theorem impl_PermValid.calls (A0 : Option Addr) (c0 : Nat) (l0 : List Int) (r : Bool) (w : World) (hr0 : Kd.C (Kd.int .i64) w A0 l0.length l0) (hc0 : l0.length ≤ c0) (h : impl_PermValid.f l0 = some r) :
    Calls Try.prog 26 #[.slice A0 l0.length c0] w fun e w' => e = .returned (.bool r) ∧ Below w.heap.size w w' := by
  have HR0 := Aside0.mk hr0
  have HC0 := Aside0.mk hc0
  clear hr0 hc0
  by_cases hn : 1 ≤ l0.length ∧ l0.length ≤ 12
  · obtain ⟨hn1, hn2⟩ := hn
    have H := Aside0.mk h
    clear h
    go_enter Try.func26, Try.ntmps26
    go_wp2
    go_loopg [17] 12 (fun kq v17 w' => ∃ i : Nat, v17 = .int .i64 i ∧ Aside0 (i ≤ l0.length) ∧ Aside0 (i + kq = 12) ∧ Aside0 ((List.range i).all (impl_PermValid.okAt l0) = true) ∧ w' = w.alloc (.cells (impl_PermValid.seenCells l0 i) 52))
    case atStart => exact ⟨0, rfl, ⟨Nat.zero_le _⟩, ⟨rfl⟩, ⟨rfl⟩, by rw [impl_PermValid.seen_zero]⟩
    case round =>
      obtain ⟨i, rfl, hi, hk, hall, rfl⟩ := hrel
      have hb : Below w.heap.size w (w.alloc (.cells (impl_PermValid.seenCells l0 i) 52)) := (Below.refl _ _).alloc (Nat.le_refl _) _
      have HBel := Aside0.mk hb
      clear hb
      by_cases hlt : i < l0.length
      · obtain ⟨ad, e, hx⟩ := Kd.at_int (Kd.C_below HR0.out HBel.out) (i : Int) (by omega) (by omega)
        cases e
        obtain ⟨x, hxe⟩ : ∃ x, x = rd l0 i := ⟨_, rfl⟩
        rw [impl_PermValid.rd_nat, ← hxe] at hx
        have HX := Aside0.mk hxe
        clear hxe
        have hx' : (w.alloc (.cells (impl_PermValid.seenCells l0 i) 52)).cell? (ad.add i) = some (.int .i64 x) := hx
        clear hx
        by_cases h1 : x < 0
        · go_wp2
          go_ret
          have hf : impl_PermValid.okAt l0 i = false := by unfold impl_PermValid.okAt; rw [← HX.out]; simp; omega
          refine ⟨?_, HBel.out⟩
          have := H.out
          unfold impl_PermValid.f at this
          rw [impl_PermValid.valid_fail l0 i hlt hf] at this
          injection this with this
          subst this
          rfl
        · by_cases h2 : x < l0.length
          · obtain ⟨m, rfl⟩ : ∃ m : Nat, x = m := ⟨x.toNat, by omega⟩
            have hs : (impl_PermValid.seenCells l0 i)[m]? = some (Value.bool ((l0.take i).contains (m : Int))) := impl_PermValid.seen_cell l0 i m (by omega)
            obtain ⟨b, hb⟩ : ∃ b, b = (l0.take i).contains (m : Int) := ⟨_, rfl⟩
            rw [← hb] at hs
            have HBB := Aside0.mk hb
            clear hb
            cases b with
            | true =>
              go_wp2
              go_ret
              have hf : impl_PermValid.okAt l0 i = false := by unfold impl_PermValid.okAt; rw [← HX.out, ← HBB.out]; simp
              refine ⟨?_, HBel.out⟩
              have := H.out
              unfold impl_PermValid.f at this
              rw [impl_PermValid.valid_fail l0 i hlt hf] at this
              injection this with this
              subst this
              rfl
            | false =>
              go_wp2
              go_roundg (gk - 1)
              case measure => have := hk.out; omega
              case rel =>
                have hf : impl_PermValid.okAt l0 i = true := by unfold impl_PermValid.okAt; rw [← HX.out, ← HBB.out]; simp; omega
                refine ⟨i + 1, by go_num, ⟨by omega⟩, ⟨by have := hk.out; omega⟩, ⟨impl_PermValid.all_snoc l0 i hall.out hf⟩, ?_⟩
                rw [← impl_PermValid.seen_set l0 i hlt m HX.out.symm]
          · go_wp2
            go_ret
            have hf : impl_PermValid.okAt l0 i = false := by unfold impl_PermValid.okAt; rw [← HX.out]; simp; omega
            refine ⟨?_, HBel.out⟩
            have := H.out
            unfold impl_PermValid.f at this
            rw [impl_PermValid.valid_fail l0 i hlt hf] at this
            injection this with this
            subst this
            rfl
      · go_wp2
        go_ret
        have he : i = l0.length := by have := hi.out; omega
        refine ⟨?_, HBel.out⟩
        have := H.out
        unfold impl_PermValid.f at this
        rw [impl_PermValid.valid_all l0 hn1 hn2 (by rw [← he]; exact hall.out)] at this
        injection this with this
        subst this
        rfl
  · have hv : impl_PermValid.validB l0 = false := impl_PermValid.valid_size l0 hn
    have hr : r = false := by
      unfold impl_PermValid.f at h
      rw [hv] at h
      injection h with h
      exact h.symm
    subst hr
    clear h
    have hb : Below w.heap.size w (w.alloc (.cells (impl_PermValid.seenCells l0 0) 52)) := (Below.refl _ _).alloc (Nat.le_refl _) _
    rw [impl_PermValid.seen_zero] at hb
    have HBel := Aside0.mk hb
    clear hb hv
    by_cases h1 : l0.length < 1
    · have h2 : decide ((l0.length : Int) < 1) = true := by simp; omega
      clear h1 hn
      go_enter Try.func26, Try.ntmps26
      go_wp2
      go_ret
      exact ⟨rfl, HBel.out⟩
    · have h2 : decide ((l0.length : Int) < 1) = false := by simp; omega
      have h3 : decide (12 < (l0.length : Int)) = true := by simp; omega
      clear h1 hn
      go_enter Try.func26, Try.ntmps26
      go_wp2
      go_ret
      exact ⟨rfl, HBel.out⟩

end Go.Proofs.Ytknkefjleinkkaa.F
