/- Contracts: what these Go functions return. -/
import Derived.Test.YtihabnfccgjfbaaF0
import Derived.Test.YtihabnfccgjfbaaF5
import Derived.Test.YtihabnfccgjfbaaF7
namespace Go.Proofs.Ytihabnfccgjfbaa.F
open Go.RowKit Go.Proofs.YtihabnfccgjfbaaW.PrintWords Go.Proofs.YtihabnfccgjfbaaW.PrintLast Go.Proofs.YtihabnfccgjfbaaW.PrintMore
attribute [local go_sem] max2_int min2_int max_two min_two max_three min_three max_four min_four
set_option linter.unusedVariables false
set_option linter.unusedSimpArgs false

/-! ### spec_l6Open: function 37 -/
def spec_l6Open.f (l0 : List Int) : Option (List Int × Int) := if (l0.length : Int) > 2000 then (if 2000 ≤ (l0.length : Int) then (some (l0.take 2000, 0)) else (none)) else (some (l0, 0))
set_option maxHeartbeats 8000000 in
set_option maxRecDepth 100000 in
theorem spec_l6Open.calls (A0 : Option Addr) (c0 : Nat) (l0 : List Int) (r1 : List Int) (r2 : Int) (w0 w : World) (hB : Below w0.heap.size w0 w) (hr0 : Kd.C (Kd.int .u8) w0 A0 l0.length l0) (hc0 : l0.length ≤ c0) (h : spec_l6Open.f l0 = some (r1, r2)) :
 Calls Try.prog 37 #[.slice A0 l0.length c0] w fun e w' => ∃ g_ : Nat, e = .returned (.pointer (some ⟨g_, 0, none⟩)) ∧ IsS70 w0 w' g_ r1 r2 ∧ Below w0.heap.size w0 w' ∧ Below w.heap.size w w' := by
 have hu70 := Try.underlying70
 have HR0 := Aside0.mk hr0
 have HC0 := Aside0.mk hc0
 clear hr0 hc0
 have HBW := Aside0.mk (Below.refl w.heap.size w)
 have HW0 := Aside0.mk hB.size
 have HB := Aside0.mk hB
 clear hB
 have H : (if (l0.length : Int) > 2000 then (if 2000 ≤ (l0.length : Int) then (some (l0.take 2000, 0)) else (none)) else (some (l0, 0))) = some (r1, r2) := h
 clear h
 by_cases c2 : (l0.length : Int) > 2000
 ·rw [if_pos c2] at H
  have c2b0 : decide (2000 < (l0.length : Int)) = true := decide_eq_true c2
  have c2b1 : decide (2000 < l0.length) = true := decide_eq_true (by omega)
  clear c2
  by_cases c3 : 2000 ≤ (l0.length : Int)
  ·rw [if_pos c3] at H
   have c3b0 := eq_true c3
   have c3b1 : decide (2000 ≤ (l0.length : Int)) = true := decide_eq_true c3
   clear c3
   simp only [Option.some.injEq, Prod.mk.injEq] at H
   obtain ⟨rfl, rfl⟩ := H
   obtain ⟨i04, hi04, _, hsz4, _⟩ := info_parts info5
   obtain ⟨hcut4, hA4, hC4⟩ := print_take_of (P := Try.prog) (Value.int .u8) 0 22 5 .i64 Try.underlying22 hi04 hsz4 A0 c0 l0 2000 (by omega) (dT) HC0.out
   have HR189 := Aside0.mk (Kd.C_of_reads (h1 := fun _ => rfl) (hA4 _ (Kd.reads_of_C HR0.out)))
   have HC189 := Aside0.mk hC4
   clear hA4 hC4 hi04 hsz4
   go_enter Try.func37, Try.ntmps37
   go_wp2_with (first | ((with_reducible refine gate_dst (N := 10) rfl ?_); refine bE 10 #[.slice A0 (l0.take 2000).length c0, .int .i64 0] 70 ?_; intro gb190 hg w5 hbox hb; replace HB := bS HB hb; have BK190 := Aside0.mk (hbox); have GW190 := gS HBW hg; have GE190 := Aside0.mk ((Nat.le_trans HW0.out (by rw [hg]; exact (below_size (bP HBW)) : w.heap.size ≤ gb190) : w0.heap.size ≤ gb190)); replace HBW := Aside0.mk (below_step HBW.out hb); clear hb hbox hg))
   go_ret
   exact ⟨_, rfl, (show IsS70 w0 _ gb190 (l0.take 2000) 0 from ⟨_, _, kP BK190, GE190.out, HR189.out⟩), bP HB, bP HBW⟩
  ·rw [if_neg c3] at H
   exact absurd H (by simp)
 ·rw [if_neg c2] at H
  have c2b0 : decide (2000 < (l0.length : Int)) = false := decide_eq_false c2
  have c2b1 : decide (2000 < l0.length) = false := decide_eq_false (by omega)
  clear c2
  simp only [Option.some.injEq, Prod.mk.injEq] at H
  obtain ⟨rfl, rfl⟩ := H
  go_enter Try.func37, Try.ntmps37
  go_wp2_with (first | ((with_reducible refine gate_dst (N := 10) rfl ?_); refine bE 10 #[.slice A0 l0.length c0, .int .i64 0] 70 ?_; intro gb191 hg w6 hbox hb; replace HB := bS HB hb; have BK191 := Aside0.mk (hbox); have GW191 := gS HBW hg; have GE191 := Aside0.mk ((Nat.le_trans HW0.out (by rw [hg]; exact (below_size (bP HBW)) : w.heap.size ≤ gb191) : w0.heap.size ≤ gb191)); replace HBW := Aside0.mk (below_step HBW.out hb); clear hb hbox hg))
  go_ret
  exact ⟨_, rfl, (show IsS70 w0 _ gb191 l0 0 from ⟨_, _, kP BK191, GE191.out, HR0.out⟩), bP HB, bP HBW⟩

/-! ### spec_DrawMapFaces: function 9 -/
def spec_DrawMapFaces.f (k : Nat) (l0 : List Int) : Option (List Int × List Int) := (spec_l6Open.f l0).bind fun bt193 => ((spec_l91Map.f k bt193.1 bt193.2 5).bind fun bt196 => (some (bt196.1, bt196.2.1)))
set_option maxHeartbeats 8000000 in
set_option maxRecDepth 100000 in
theorem spec_DrawMapFaces.calls (k : Nat) (A0 : Option Addr) (c0 : Nat) (l0 : List Int) (r1 : List Int) (r2 : List Int) (w : World) (hr0 : Kd.C (Kd.int .u8) w A0 l0.length l0) (hc0 : l0.length ≤ c0) (h : spec_DrawMapFaces.f k l0 = some (r1, r2)) :
 Calls Try.prog 9 #[.slice A0 l0.length c0] w fun e w' => ∃ v0_ v1_ : Value, e = .returned (.agg #[v0_, v1_]) ∧ Kd.Q (Kd.int .i64) 3 w' w.heap.size (fun k_ => some k_ ≠ (v1_ : Value).ownBlock) v0_ r1 ∧ Kd.R (Kd.int .i64) 3 w' w.heap.size (fun k_ => some k_ ≠ (v0_ : Value).ownBlock) v1_ r2 ∧ Below w.heap.size w w' := by
 have hu25 := Try.underlying25
 have HR0 := Aside0.mk hr0
 have HC0 := Aside0.mk hc0
 clear hr0 hc0
 have HB := Aside0.mk (Below.refl w.heap.size w)
 have H : ((spec_l6Open.f l0).bind fun bt193 => ((spec_l91Map.f k bt193.1 bt193.2 5).bind fun bt196 => (some (bt196.1, bt196.2.1)))) = some (r1, r2) := h
 clear h
 replace H := Option.bind_eq_some_iff.mp H
 obtain ⟨⟨t193, t194⟩, A20, H⟩ := H
 replace H : ((spec_l91Map.f k t193 t194 5).bind fun bt196 => (some (bt196.1, bt196.2.1))) = some (r1, r2) := H
 have A2 := Aside0.mk A20
 clear A20
 replace H := Option.bind_eq_some_iff.mp H
 obtain ⟨⟨t196, t199, t202⟩, A30, H⟩ := H
 replace H : (some (t196, t199)) = some (r1, r2) := H
 have A3 := Aside0.mk A30
 clear A30
 simp only [Option.some.injEq, Prod.mk.injEq] at H
 obtain ⟨rfl, rfl⟩ := H
 go_enter Try.func9, Try.ntmps9
 go_wp2_with (first | ((with_reducible refine gate_dst (N := 2) rfl ?_); refine bE 2 #[.slice none 0 0, .slice none 0 0] 25 ?_; intro gb192 hg w4 hbox hb; have BK192 := Aside0.mk (hbox); have GW192 := gS HB hg; have GE192 := gS HB hg; replace HB := bS HB hb; clear hb hbox hg) | ((with_reducible refine gate_callee (f := 37) rfl ?_); refine gL (some 4) Try.func37 #[.slice A0 l0.length c0] ?_; (with_reducible refine (spec_l6Open.calls _ _ l0 t193 t194 w _ ?side1 ?side2 ?side3 A2.out).mono ?_); (case side1 => exact bP HB); (case side2 => exact HR0.out); (case side3 => exact HC0.out); rintro e w5 ⟨g195, rfl, hi, hb, hb2⟩; refine ⟨_, rfl, ?_⟩; replace HB := Aside0.mk (hb); have HI195 := Aside0.mk (hi); have NB195_192 := Aside0.mk (IsS70.ne_blk hi (blk_below (kP BK192) hb2) (by decide)); have NB192_195 := Aside0.mk (Ne.symm (IsS70.ne_blk hi (blk_below (kP BK192) hb2) (by decide))); replace BK192 := kB BK192 hb2; (try clear hb); (try clear hb2); (try clear hk); (try clear hi)) | ((with_reducible refine gate_callee (f := 36) rfl ?_); refine gL (some 5) Try.func36 #[.pointer (some ⟨g195, 0, none⟩), .int .i64 5] ?_; (with_reducible refine (spec_l91Map.calls k g195 t193 t194 5 t196 t199 t202 w _ ?side1 ?side2 A3.out).mono ?_); (case side1 => repeat (first | (with_reducible first | exact HI195.out | apply IsS70.alloc | apply IsS70.drewN | apply IsS70.drew | apply IsS70.set_1 | refine IsS70.far ?_ NB195_192.out _) | exact HI195.out)); (case side2 => repeat (first | (with_reducible first | exact HB.out | apply below_alloc | apply pw_below_drewN | apply below_drew1 | refine below_set ?_ (IsS70.ge HI195.out) | refine below_set ?_ GE192.out) | exact HB.out)); rintro e w6 ⟨v197, v200, rfl, ho0, ho1, hi, hb, hk⟩; refine ⟨_, rfl, ?_⟩; replace BK192 := Aside0.mk (KeepBut.blk hk (g' := gb192) (o := .cells #[.slice none 0 0, .slice none 0 0] 25 (0, 0)) (kP BK192) NB192_195.out (by simp)); have HO198 := Aside0.mk (Kd.Q_lower ho0 (below_size (by repeat (first | (with_reducible first | exact HB.out | apply below_alloc | apply pw_below_drewN | apply below_drew1 | refine below_set ?_ (IsS70.ge HI195.out) | refine below_set ?_ GE192.out) | exact HB.out)))); have HO201 := Aside0.mk (Kd.R_lower ho1 (below_size (by repeat (first | (with_reducible first | exact HB.out | apply below_alloc | apply pw_below_drewN | apply below_drew1 | refine below_set ?_ (IsS70.ge HI195.out) | refine below_set ?_ GE192.out) | exact HB.out)))); replace HB := Aside0.mk (hb); replace HI195 := Aside0.mk (hi); (try clear hb); (try clear hb2); (try clear hk); (try clear hi); (try clear ho0); (try clear ho1); obtain ⟨Ao7, co7, eo7, _⟩ := Kd.Q_slice HO198.out; subst eo7; have hnb8 := NB192_195.out; have hnc8 := NB195_192.out; have hcz9_0 := zc0 BK192; have hcz9_1 := zc1 BK192; have hfz9_0 := blk_frozen BK192.out 0; have hfz9_1 := blk_frozen BK192.out 1; obtain ⟨Ao10, co10, eo10⟩ := Kd.R_slice HO201.out; subst eo10))
 refine bodyPost_ret (results_cell_row rfl _ _ gb192 25 #[.slice Ao7 t196.length co7, .slice Ao10 t199.length co10] (0, 0) _ rfl (by (with_reducible repeat (first | refine blk_drewN ?_ _ | refine blk_drew ?_ | refine blk_alloc ?_ _)); refine blk_put (cs := #[.slice Ao7 t196.length co7, .slice none 0 0]) ?_ 1 _ rfl; (with_reducible repeat (first | refine blk_drewN ?_ _ | refine blk_drew ?_ | refine blk_alloc ?_ _)); refine blk_put (cs := #[.slice none 0 0, .slice none 0 0]) ?_ 0 _ rfl; (with_reducible repeat (first | refine blk_drewN ?_ _ | refine blk_drew ?_ | refine blk_alloc ?_ _)); exact BK192.out) Try.underlying25 rfl (by kernel_rfl)) rfl ?_
 exact ⟨_, _, eR, by (with_reducible repeat (first | apply Kd.Q_alloc | apply Kd.Q_drewN | apply Kd.Q_drew)); exact Kd.Q_mono (Kd.Q_far (p := ⟨gb192, 1, none⟩) (Kd.Q_far (p := ⟨gb192, 0, none⟩) (Kd.Q_types HO198.out BK192.out (by decide)) (fun _ hk => hk.2) (.slice Ao7 t196.length co7)) (fun _ hk => hk.2) (.slice Ao10 t199.length co10)) (fun _ hk => hk.1), by (with_reducible repeat (first | apply Kd.R_alloc | apply Kd.R_drewN | apply Kd.R_drew)); exact Kd.R_mono (Kd.R_far (p := ⟨gb192, 1, none⟩) (Kd.R_far (p := ⟨gb192, 0, none⟩) (Kd.R_types HO201.out BK192.out (by decide)) (fun _ hk => hk.2) (.slice Ao7 t196.length co7)) (fun _ hk => hk.2) (.slice Ao10 t199.length co10)) (fun _ hk => hk.1), by repeat (first | (with_reducible first | exact HB.out | apply below_alloc | apply pw_below_drewN | apply below_drew1 | refine below_set ?_ (IsS70.ge HI195.out) | refine below_set ?_ GE192.out) | exact HB.out)⟩

/-! ### impl_PermValid: function 43 -/
/-- the cells of the array of what has been seen -/
def impl_PermValid.seenCells (l : List Int) (i : Nat) : Array Value := ((List.range 12).map fun (j : Nat) => Value.bool ((l.take i).contains (j : Int))).toArray
def impl_PermValid.okAt (l : List Int) (i : Nat) : Bool := decide (0 ≤ rd l i) && decide (rd l i < l.length) && !(l.take i).contains (rd l i)
def impl_PermValid.validB (l : List Int) : Bool := decide (1 ≤ l.length) && decide (l.length ≤ 12) && (List.range l.length).all (impl_PermValid.okAt l)
def impl_PermValid.f (l0 : List Int) : Option Bool := some (impl_PermValid.validB l0)
theorem impl_PermValid.seen_zero (l : List Int) : impl_PermValid.seenCells l 0 = #[Value.bool false, Value.bool false, Value.bool false, Value.bool false, Value.bool false, Value.bool false, Value.bool false, Value.bool false, Value.bool false, Value.bool false, Value.bool false, Value.bool false] := rfl
theorem impl_PermValid.seen_cell (l : List Int) (i : Nat) (x : Nat) (h : x < 12) : (impl_PermValid.seenCells l i)[x]? = some (Value.bool ((l.take i).contains (x : Int))) := by
 unfold impl_PermValid.seenCells
 simp [h]
theorem impl_PermValid.take_snoc (l : List Int) (i : Nat) (h : i < l.length) : l.take (i + 1) = l.take i ++ [rd l i] := by
 rw [List.take_succ_eq_append_getElem h]
 unfold rd
 simp [h]
theorem impl_PermValid.seen_set (l : List Int) (i : Nat) (h : i < l.length) (x : Nat) (hx : rd l i = x) : (impl_PermValid.seenCells l i).setIfInBounds x (Value.bool true) = impl_PermValid.seenCells l (i + 1) := by
 apply Array.ext_getElem?
 intro j
 unfold impl_PermValid.seenCells
 rw [impl_PermValid.take_snoc l i h, hx]
 simp only [List.setIfInBounds_toArray, List.getElem?_toArray, List.getElem?_set, List.length_map, List.length_range]
 by_cases e : x = j
 ·subst e
  by_cases hj : x < 12
  ·simp [hj]
  ·simp [hj]
 ·rw [if_neg e]
  by_cases hj : j < 12
  ·simp [hj]; omega
  ·simp [hj]
theorem impl_PermValid.rd_nat (l : List Int) (i : Nat) : rd l (i : Int) = rd l i := rfl

theorem impl_PermValid.valid_fail (l : List Int) (i : Nat) (h : i < l.length) (hx : impl_PermValid.okAt l i = false) : impl_PermValid.validB l = false := by
 unfold impl_PermValid.validB
 rw [Bool.and_eq_false_iff]
 right
 rw [List.all_eq_false]
 exact ⟨i, by simpa using h, by simp [hx]⟩
theorem impl_PermValid.valid_all (l : List Int) (h1 : 1 ≤ l.length) (h2 : l.length ≤ 12) (h : (List.range l.length).all (impl_PermValid.okAt l) = true) : impl_PermValid.validB l = true := by
 unfold impl_PermValid.validB
 simp [h1, h2, h]
theorem impl_PermValid.all_snoc (l : List Int) (i : Nat) (h : (List.range i).all (impl_PermValid.okAt l) = true) (hx : impl_PermValid.okAt l i = true) : (List.range (i + 1)).all (impl_PermValid.okAt l) = true := by
 rw [List.range_succ, List.all_append, h]
 simp [hx]
theorem impl_PermValid.valid_size (l : List Int) (h : ¬ (1 ≤ l.length ∧ l.length ≤ 12)) : impl_PermValid.validB l = false := by
 unfold impl_PermValid.validB
 by_cases a : 1 ≤ l.length
 ·have b : ¬ l.length ≤ 12 := fun b => h ⟨a, b⟩
  simp [b]
 ·simp [a]

set_option maxHeartbeats 8000000 in
set_option maxRecDepth 100000 in
theorem impl_PermValid.calls (A0 : Option Addr) (c0 : Nat) (l0 : List Int) (r : Bool) (w : World) (hr0 : Kd.C (Kd.int .i64) w A0 l0.length l0) (hc0 : l0.length ≤ c0) (h : impl_PermValid.f l0 = some r) :
 Calls Try.prog 43 #[.slice A0 l0.length c0] w fun e w' => e = .returned (.bool r) ∧ Below w.heap.size w w' := by
 have HR0 := Aside0.mk hr0
 have HC0 := Aside0.mk hc0
 clear hr0 hc0
 by_cases hn : 1 ≤ l0.length ∧ l0.length ≤ 12
 ·obtain ⟨hn1, hn2⟩ := hn
  have H := Aside0.mk h
  clear h
  go_enter Try.func43, Try.ntmps43
  go_wp2
  go_loopg [17] 12 (fun kq v17 w' => ∃ i : Nat, v17 = .int .i64 i ∧ Aside0 (i ≤ l0.length) ∧ Aside0 (i + kq = 12) ∧ Aside0 ((List.range i).all (impl_PermValid.okAt l0) = true) ∧ w' = w.alloc (.cells (impl_PermValid.seenCells l0 i) 74))
  case atStart => exact ⟨0, rfl, ⟨Nat.zero_le _⟩, ⟨rfl⟩, ⟨rfl⟩, by rw [impl_PermValid.seen_zero]⟩
  case round =>
   obtain ⟨i, rfl, hi, hk, hall, rfl⟩ := hrel
   have hb : Below w.heap.size w (w.alloc (.cells (impl_PermValid.seenCells l0 i) 74)) := (Below.refl _ _).alloc (Nat.le_refl _) _
   have HBel := Aside0.mk hb
   clear hb
   by_cases hlt : i < l0.length
   ·obtain ⟨ad, e, hx⟩ := Kd.at_int (Kd.C_below HR0.out HBel.out) (i : Int) (by omega) (by omega)
    cases e
    obtain ⟨x, hxe⟩ : ∃ x, x = rd l0 i := ⟨_, rfl⟩
    rw [impl_PermValid.rd_nat, ← hxe] at hx
    have HX := Aside0.mk hxe
    clear hxe
    have hx' : (w.alloc (.cells (impl_PermValid.seenCells l0 i) 74)).cell? (ad.add i) = some (.int .i64 x) := hx
    clear hx
    by_cases h1 : x < 0
    ·go_wp2
     go_ret
     have hf : impl_PermValid.okAt l0 i = false := by unfold impl_PermValid.okAt; rw [← HX.out]; simp; omega
     refine ⟨?_, HBel.out⟩
     have := H.out
     unfold impl_PermValid.f at this
     rw [impl_PermValid.valid_fail l0 i hlt hf] at this
     injection this with this
     subst this
     rfl
    ·by_cases h2 : x < l0.length
     ·obtain ⟨m, rfl⟩ : ∃ m : Nat, x = m := ⟨x.toNat, by omega⟩
      have hs : (impl_PermValid.seenCells l0 i)[m]? = some (Value.bool ((l0.take i).contains (m : Int))) := impl_PermValid.seen_cell l0 i m (by omega)
      obtain ⟨b, hb⟩ : ∃ b, b = (l0.take i).contains (m : Int) := ⟨_, rfl⟩
      rw [← hb] at hs
      have HBB := Aside0.mk hb
      clear hb
      cases b with
      | true =>
       go_wp2
       go_ret
       have hf : impl_PermValid.okAt l0 i = false := by unfold impl_PermValid.okAt; rw [← HX.out, ← HBB.out]; simp
       refine ⟨?_, HBel.out⟩
       have := H.out
       unfold impl_PermValid.f at this
       rw [impl_PermValid.valid_fail l0 i hlt hf] at this
       injection this with this
       subst this
       rfl
      | false =>
       go_wp2
       go_roundg (gk - 1)
       case measure => have := hk.out; omega
       case rel =>
        have hf : impl_PermValid.okAt l0 i = true := by unfold impl_PermValid.okAt; rw [← HX.out, ← HBB.out]; simp; omega
        refine ⟨i + 1, by go_num, ⟨by omega⟩, ⟨by have := hk.out; omega⟩, ⟨impl_PermValid.all_snoc l0 i hall.out hf⟩, ?_⟩
        rw [← impl_PermValid.seen_set l0 i hlt m HX.out.symm]
     ·go_wp2
      go_ret
      have hf : impl_PermValid.okAt l0 i = false := by unfold impl_PermValid.okAt; rw [← HX.out]; simp; omega
      refine ⟨?_, HBel.out⟩
      have := H.out
      unfold impl_PermValid.f at this
      rw [impl_PermValid.valid_fail l0 i hlt hf] at this
      injection this with this
      subst this
      rfl
   ·go_wp2
    go_ret
    have he : i = l0.length := by have := hi.out; omega
    refine ⟨?_, HBel.out⟩
    have := H.out
    unfold impl_PermValid.f at this
    rw [impl_PermValid.valid_all l0 hn1 hn2 (by rw [← he]; exact hall.out)] at this
    injection this with this
    subst this
    rfl
 ·have hv : impl_PermValid.validB l0 = false := impl_PermValid.valid_size l0 hn
  have hr : r = false := by
   unfold impl_PermValid.f at h
   rw [hv] at h
   injection h with h
   exact h.symm
  subst hr
  clear h
  have hb : Below w.heap.size w (w.alloc (.cells (impl_PermValid.seenCells l0 0) 74)) := (Below.refl _ _).alloc (Nat.le_refl _) _
  rw [impl_PermValid.seen_zero] at hb
  have HBel := Aside0.mk hb
  clear hb hv
  by_cases h1 : l0.length < 1
  ·have h2 : decide ((l0.length : Int) < 1) = true := by simp; omega
   clear h1 hn
   go_enter Try.func43, Try.ntmps43
   go_wp2
   go_ret
   exact ⟨rfl, HBel.out⟩
  ·have h2 : decide ((l0.length : Int) < 1) = false := by simp; omega
   have h3 : decide (12 < (l0.length : Int)) = true := by simp; omega
   clear h1 hn
   go_enter Try.func43, Try.ntmps43
   go_wp2
   go_ret
   exact ⟨rfl, HBel.out⟩

end Go.Proofs.Ytihabnfccgjfbaa.F
