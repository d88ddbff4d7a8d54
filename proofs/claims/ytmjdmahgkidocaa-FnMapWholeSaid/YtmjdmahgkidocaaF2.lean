/- Contracts: what these Go functions return. -/
import Derived.Test.YtmjdmahgkidocaaF0
namespace Go.Proofs.Ytmjdmahgkidocaa.F
open Go.RowKit Go.Proofs.YtmjdmahgkidocaaW.PrintWords Go.Proofs.YtmjdmahgkidocaaW.PrintLast Go.Proofs.YtmjdmahgkidocaaW.PrintMore
attribute [local go_sem] max2_int min2_int max_two min_two max_three min_three max_four min_four
set_option linter.unusedVariables false
set_option linter.unusedSimpArgs false

/-! ### impl_PermValid: function 11 -/
/-- the cells of the array of what has been seen -/
def impl_PermValid.seenCells (l : List Int) (i : Nat) : Array Value := ((List.range 12).map fun (j : Nat) => Value.bool ((l.take i).contains (j : Int))).toArray
def impl_PermValid.okAt (l : List Int) (i : Nat) : Bool := decide (0 ≤ rd l i) && decide (rd l i < l.length) && !(l.take i).contains (rd l i)
def impl_PermValid.validB (l : List Int) : Bool := decide (1 ≤ l.length) && decide (l.length ≤ 12) && (List.range l.length).all (impl_PermValid.okAt l)
def impl_PermValid.f (l0 : List Int) : Option Bool := some (impl_PermValid.validB l0)
theorem impl_PermValid.seen_zero (l : List Int) : impl_PermValid.seenCells l 0 = #[Value.bool false, Value.bool false, Value.bool false, Value.bool false, Value.bool false, Value.bool false, Value.bool false, Value.bool false, Value.bool false, Value.bool false, Value.bool false, Value.bool false] := rfl
theorem impl_PermValid.seen_cell (l : List Int) (i : Nat) (x : Nat) (h : x < 12) : (impl_PermValid.seenCells l i)[x]? = some (Value.bool ((l.take i).contains (x : Int))) := by
 unfold impl_PermValid.seenCells
 simp [h]
theorem impl_PermValid.take_snoc (l : List Int) (i : Nat) (h : i < l.length) : l.take (i + 1) = l.take i ++ [rd l i] := by
 rw [List.take_succ_eq_append_getElem h]
 unfold rd
 simp [h]
theorem impl_PermValid.seen_set (l : List Int) (i : Nat) (h : i < l.length) (x : Nat) (hx : rd l i = x) : (impl_PermValid.seenCells l i).setIfInBounds x (Value.bool true) = impl_PermValid.seenCells l (i + 1) := by
 apply Array.ext_getElem?
 intro j
 unfold impl_PermValid.seenCells
 rw [impl_PermValid.take_snoc l i h, hx]
 simp only [List.setIfInBounds_toArray, List.getElem?_toArray, List.getElem?_set, List.length_map, List.length_range]
 by_cases e : x = j
 ·subst e
  by_cases hj : x < 12
  ·simp [hj]
  ·simp [hj]
 rw [if_neg e]
 by_cases hj : j < 12
 ·simp [hj]; omega
 ·simp [hj]
theorem impl_PermValid.rd_nat (l : List Int) (i : Nat) : rd l (i : Int) = rd l i := rfl

theorem impl_PermValid.valid_fail (l : List Int) (i : Nat) (h : i < l.length) (hx : impl_PermValid.okAt l i = false) : impl_PermValid.validB l = false := by
 unfold impl_PermValid.validB
 rw [Bool.and_eq_false_iff]
 right
 rw [List.all_eq_false]
 exact ⟨i, by simpa using h, by simp [hx]⟩
theorem impl_PermValid.valid_all (l : List Int) (h1 : 1 ≤ l.length) (h2 : l.length ≤ 12) (h : (List.range l.length).all (impl_PermValid.okAt l) = true) : impl_PermValid.validB l = true := by
 unfold impl_PermValid.validB
 simp [h1, h2, h]
theorem impl_PermValid.all_snoc (l : List Int) (i : Nat) (h : (List.range i).all (impl_PermValid.okAt l) = true) (hx : impl_PermValid.okAt l i = true) : (List.range (i + 1)).all (impl_PermValid.okAt l) = true := by
 rw [List.range_succ, List.all_append, h]
 simp [hx]
theorem impl_PermValid.valid_size (l : List Int) (h : ¬ (1 ≤ l.length ∧ l.length ≤ 12)) : impl_PermValid.validB l = false := by
 unfold impl_PermValid.validB
 by_cases a : 1 ≤ l.length
 ·have b : ¬ l.length ≤ 12 := fun b => h ⟨a, b⟩
  simp [b]
 ·simp [a]

set_option maxHeartbeats 8000000 in
set_option maxRecDepth 100000 in
theorem impl_PermValid.calls (A0 : Option Addr) (c0 : Nat) (l0 : List Int) (r : Bool) (w : World) (hr0 : Kd.C (Kd.int .i64) w A0 l0.length l0) (hc0 : l0.length ≤ c0) (h : impl_PermValid.f l0 = some r) :
 Calls Try.prog 11 #[.slice A0 l0.length c0] w fun e w' => e = .returned (.bool r) ∧ Below w.heap.size w w' := by
 have HR0 := Aside0.mk hr0
 have HC0 := Aside0.mk hc0
 clear hr0 hc0
 by_cases hn : 1 ≤ l0.length ∧ l0.length ≤ 12
 ·obtain ⟨hn1, hn2⟩ := hn
  have H := Aside0.mk h
  clear h
  go_enter Try.func11, Try.ntmps11
  go_wp2
  go_loopg [17] 12 (fun kq v17 w' => ∃ i : Nat, v17 = .int .i64 i ∧ Aside0 (i ≤ l0.length) ∧ Aside0 (i + kq = 12) ∧ Aside0 ((List.range i).all (impl_PermValid.okAt l0) = true) ∧ w' = w.alloc (.cells (impl_PermValid.seenCells l0 i) 46))
  case atStart => exact ⟨0, rfl, ⟨Nat.zero_le _⟩, ⟨rfl⟩, ⟨rfl⟩, by rw [impl_PermValid.seen_zero]⟩
  case round =>
   obtain ⟨i, rfl, hi, hk, hall, rfl⟩ := hrel
   have hb : Below w.heap.size w (w.alloc (.cells (impl_PermValid.seenCells l0 i) 46)) := (Below.refl _ _).alloc (Nat.le_refl _) _
   have HBel := Aside0.mk hb
   clear hb
   by_cases hlt : i < l0.length
   ·obtain ⟨ad, e, hx⟩ := Kd.at_int (Kd.C_below HR0.out HBel.out) (i : Int) (by omega) (by omega)
    cases e
    obtain ⟨x, hxe⟩ : ∃ x, x = rd l0 i := ⟨_, rfl⟩
    rw [impl_PermValid.rd_nat, ← hxe] at hx
    have HX := Aside0.mk hxe
    clear hxe
    have hx' : (w.alloc (.cells (impl_PermValid.seenCells l0 i) 46)).cell? (ad.add i) = some (.int .i64 x) := hx
    clear hx
    by_cases h1 : x < 0
    ·go_wp2
     go_ret
     have hf : impl_PermValid.okAt l0 i = false := by unfold impl_PermValid.okAt; rw [← HX.out]; simp; omega
     refine ⟨?_, HBel.out⟩
     have := H.out
     unfold impl_PermValid.f at this
     rw [impl_PermValid.valid_fail l0 i hlt hf] at this
     injection this with this
     subst this
     rfl
    by_cases h2 : x < l0.length
    ·obtain ⟨m, rfl⟩ : ∃ m : Nat, x = m := ⟨x.toNat, by omega⟩
     have hs : (impl_PermValid.seenCells l0 i)[m]? = some (Value.bool ((l0.take i).contains (m : Int))) := impl_PermValid.seen_cell l0 i m (by omega)
     obtain ⟨b, hb⟩ : ∃ b, b = (l0.take i).contains (m : Int) := ⟨_, rfl⟩
     rw [← hb] at hs
     have HBB := Aside0.mk hb
     clear hb
     cases b with
     | true =>
      go_wp2
      go_ret
      have hf : impl_PermValid.okAt l0 i = false := by unfold impl_PermValid.okAt; rw [← HX.out, ← HBB.out]; simp
      refine ⟨?_, HBel.out⟩
      have := H.out
      unfold impl_PermValid.f at this
      rw [impl_PermValid.valid_fail l0 i hlt hf] at this
      injection this with this
      subst this
      rfl
     | false =>
      go_wp2
      go_roundg (gk - 1)
      case measure => have := hk.out; omega
      case rel =>
       have hf : impl_PermValid.okAt l0 i = true := by unfold impl_PermValid.okAt; rw [← HX.out, ← HBB.out]; simp; omega
       refine ⟨i + 1, by go_num, ⟨by omega⟩, ⟨by have := hk.out; omega⟩, ⟨impl_PermValid.all_snoc l0 i hall.out hf⟩, ?_⟩
       rw [← impl_PermValid.seen_set l0 i hlt m HX.out.symm]
    go_wp2
    go_ret
    have hf : impl_PermValid.okAt l0 i = false := by unfold impl_PermValid.okAt; rw [← HX.out]; simp; omega
    refine ⟨?_, HBel.out⟩
    have := H.out
    unfold impl_PermValid.f at this
    rw [impl_PermValid.valid_fail l0 i hlt hf] at this
    injection this with this
    subst this
    rfl
   go_wp2
   go_ret
   have he : i = l0.length := by have := hi.out; omega
   refine ⟨?_, HBel.out⟩
   have := H.out
   unfold impl_PermValid.f at this
   rw [impl_PermValid.valid_all l0 hn1 hn2 (by rw [← he]; exact hall.out)] at this
   injection this with this
   subst this
   rfl
 ·have hv : impl_PermValid.validB l0 = false := impl_PermValid.valid_size l0 hn
  have hr : r = false := by
   unfold impl_PermValid.f at h
   rw [hv] at h
   injection h with h
   exact h.symm
  subst hr
  clear h
  have hb : Below w.heap.size w (w.alloc (.cells (impl_PermValid.seenCells l0 0) 46)) := (Below.refl _ _).alloc (Nat.le_refl _) _
  rw [impl_PermValid.seen_zero] at hb
  have HBel := Aside0.mk hb
  clear hb hv
  by_cases h1 : l0.length < 1
  ·have h2 : decide ((l0.length : Int) < 1) = true := by simp; omega
   clear h1 hn
   go_enter Try.func11, Try.ntmps11
   go_wp2
   go_ret
   exact ⟨rfl, HBel.out⟩
  ·have h2 : decide ((l0.length : Int) < 1) = false := by simp; omega
   have h3 : decide (12 < (l0.length : Int)) = true := by simp; omega
   clear h1 hn
   go_enter Try.func11, Try.ntmps11
   go_wp2
   go_ret
   exact ⟨rfl, HBel.out⟩

/-! ### slices_Max_int_int: function 25 -/
def slices_Max_int_int.l0 : Nat → List Int → Int → Int → Option (Int)
 | 0, _, _, _ => none
 | k + 1, x0, x3, x4 => if x4 < (x0.length : Int) then (if 0 ≤ x4 then (slices_Max_int_int.l0 k x0 (mx x3 (rd x0 x4)) (wrap64 (x4 + 1))) else (none)) else (some x3)
def slices_Max_int_int.f (k : Nat) (l0 : List Int) : Option (Int) := if (l0.length : Int) < 1 then (none) else (if 0 < (l0.length : Int) then (slices_Max_int_int.l0 k l0 (rd l0 0) 1) else (none))
set_option maxHeartbeats 8000000 in
set_option maxRecDepth 100000 in
theorem slices_Max_int_int.calls (k : Nat) (A0 : Option Addr) (c0 : Nat) (l0 : List Int) (r : Int) (w : World) (hr0 : Kd.C (Kd.int .i64) w A0 l0.length l0) (hc0 : l0.length ≤ c0) (h : slices_Max_int_int.f k l0 = some r) :
 Calls Try.prog 25 #[.slice A0 l0.length c0] w fun e w' => e = .returned (.int .i64 r) ∧ Below w.heap.size w w' := by
 have HR0 := Aside0.mk hr0
 have HC0 := Aside0.mk hc0
 clear hr0 hc0
 have HB := Aside0.mk (Below.refl w.heap.size w)
 have H : (if (l0.length : Int) < 1 then (none) else (if 0 < (l0.length : Int) then (slices_Max_int_int.l0 k l0 (rd l0 0) 1) else (none))) = some r := h
 clear h
 by_cases c2 : (l0.length : Int) < 1
 ·rw [if_pos c2] at H
  exact absurd H (by simp)
 ·rw [if_neg c2] at H
  have c2b0 : decide ((l0.length : Int) < 1) = false := decide_eq_false c2
  have c2b1 : decide (l0.length < 1) = false := decide_eq_false (by omega)
  clear c2
  by_cases c3 : 0 < (l0.length : Int)
  ·rw [if_pos c3] at H
   have c3b0 : decide (0 < (l0.length : Int)) = true := decide_eq_true c3
   have c3b1 : decide (0 < l0.length) = true := decide_eq_true (by omega)
   clear c3
   have H' := Aside0.mk H
   clear H
   have p101 : 0 ≤ (0 : Int) := (by omega)
   have q101 : 0 < (l0.length : Int) := dT
   obtain ⟨ad101, e101, hx101_0⟩ := Kd.at_int HR0.out 0 p101 q101
   cases e101
   have qi101 : (0 < l0.length) = True := eq_true (by omega)
   (try rw [show ((0 : Int)).toNat = 0 from rfl] at hx101_0)
   (try rw [Addr.add_zero'] at hx101_0)
   replace p101 := eq_true p101
   replace q101 := eq_true q101
   go_enter Try.func25, Try.ntmps25
   go_wp2
   go_loopg [3, 4] k (fun kq v3 v4 w' => ∃ (x3_1 : Int) (x4_1 : Int), v3 = .int .i64 x3_1 ∧ v4 = .int .i64 x4_1 ∧ Aside0 (slices_Max_int_int.l0 kq l0 x3_1 x4_1 = some r) ∧ Aside0 (kq ≤ k) ∧ Aside0 (Below w.heap.size w w'))
   case atStart => exact ⟨(rd l0 0), (1), eS, eS, H', ⟨Nat.le_refl _⟩, ⟨bP HB⟩⟩
   case round =>
    clear H'
    try clear p1
    try clear q1
    try clear hx1
    try clear qi1
    try clear c2
    try clear c2b0
    try clear c2b1
    try clear p2
    try clear c3
    try clear c3b0
    try clear c3b1
    try clear hx101_0
    try clear p101
    try clear q101
    obtain ⟨x3_1, x4_1, rfl, rfl, HA, HK1, HB⟩ := hrel
    cases gk with
    | zero => exact absurd HA.out (by simp [slices_Max_int_int.l0])
    | succ k1 =>
     have H := HA.out
     clear HA
     simp only [slices_Max_int_int.l0] at H
     by_cases c4 : x4_1 < (l0.length : Int)
     case neg =>
      rw [if_neg c4] at H
      have c4b0 : decide (x4_1 < (l0.length : Int)) = false := decide_eq_false c4
      clear c4
      obtain rfl := Option.some.inj H
      go_wp2
      go_ret
      exact ⟨eR, bP HB⟩
     rw [if_pos c4] at H
     have c4b0 : decide (x4_1 < (l0.length : Int)) = true := decide_eq_true c4
     clear c4
     by_cases c5 : 0 ≤ x4_1
     case neg =>
      rw [if_neg c5] at H
      exact absurd H (by simp)
     rw [if_pos c5] at H
     have c5b0 : decide (0 ≤ x4_1) = true := decide_eq_true c5
     clear c5
     obtain ⟨ji6, hji6⟩ : ∃ j_ : Int, (mx x3_1 (rd l0 x4_1)) = j_ := ⟨_, rfl⟩
     replace H : (slices_Max_int_int.l0 k1 l0 ji6 (wrap64 (x4_1 + 1))) = some r := by first | (rw [hji6] at H; exact H) | (simp only [hji6] at H ⊢; exact H)
     have hji6_ : (if x3_1 < (rd l0 x4_1) then (rd l0 x4_1) else x3_1) = ji6 := hji6
     have H' := Aside0.mk H
     clear H
     have p102 : 0 ≤ (x4_1 : Int) := dT
     have q102 : x4_1 < (l0.length : Int) := dT
     obtain ⟨ad102, e102, hx102_0⟩ := Kd.at_int HR0.out x4_1 p102 q102
     obtain rfl : ad101 = ad102 := (by injection e102)
     replace hx102_0 := (HB.out.cell (World.block_lt_of_cell? w _ hx102_0)).trans hx102_0
     replace p102 := eq_true p102
     replace q102 := eq_true q102
     go_wp2
     go_roundg k1
     case measure => have := HK1.out; omega
     case rel => exact ⟨(ji6), (wrap64 (x4_1 + 1)), (by first | rfl | (simp; done) | (simp only [← hji6] <;> (first | rfl | simp)) | (simp [*]; done)), eS, H', ⟨by have := HK1.out; omega⟩, ⟨bP HB⟩⟩
  ·rw [if_neg c3] at H
   exact absurd H (by simp)

/-! ### impl_still: function 45 -/
def impl_still.l0 : Nat → List Int → Int → Int → Option (List Int)
 | 0, _, _, _ => none
 | k + 1, x3, x8, x9 => if x9 < x8 then (if 0 ≤ x9 then (if x9 < (x3.length : Int) then (impl_still.l0 k (x3.set (x9 : Int).toNat x9) x8 (wrap64 (x9 + 1))) else (none)) else (none)) else (some x3)
def impl_still.f (k : Nat) (a0 : Int) : Option (List Int) := if 0 ≤ a0 then (if (a0 : Int).toNat ≤ 35184372088832 then ((some (List.replicate (a0 : Int).toNat 0 : List Int)).bind fun y103 => (impl_still.l0 k y103 (y103.length : Int) 0)) else (none)) else (none)
set_option maxHeartbeats 8000000 in
set_option maxRecDepth 100000 in
theorem impl_still.calls (k : Nat) (a0 : Int) (r : List Int) (w : World) (h : impl_still.f k a0 = some r) :
 Calls Try.prog 45 #[.int .i64 a0] w fun e w' => ∃ v0_ : Value, e = .returned (v0_) ∧ Kd.R (Kd.int .i64) 3 w' w.heap.size (fun _ => True) v0_ r ∧ Below w.heap.size w w' := by
 have HB := Aside0.mk (Below.refl w.heap.size w)
 have H : (if 0 ≤ a0 then (if (a0 : Int).toNat ≤ 35184372088832 then ((some (List.replicate (a0 : Int).toNat 0 : List Int)).bind fun y103 => (impl_still.l0 k y103 (y103.length : Int) 0)) else (none)) else (none)) = some r := h
 clear h
 by_cases c2 : 0 ≤ a0
 ·rw [if_pos c2] at H
  have c2b0 := eq_true c2
  have c2b1 : decide (0 ≤ a0) = true := decide_eq_true c2
  clear c2
  by_cases c3 : (a0 : Int).toNat ≤ 35184372088832
  case neg =>
   rw [if_neg c3] at H
   exact absurd H (by simp)
  rw [if_pos c3] at H
  have c3b0 := eq_true c3
  have c3b1 : decide ((a0 : Int).toNat ≤ 35184372088832) = true := decide_eq_true c3
  clear c3
  obtain ⟨y103, hy103, H⟩ := yO H
  have Ny103 := Aside0.mk hy103
  clear hy103
  have H' := Aside0.mk H
  clear H
  go_enter Try.func45, Try.ntmps45
  go_wp2_with (first | ((with_reducible refine gate_dst (N := 6) rfl ?_); refine Kd.R_make (Kd.int .i64) _ 3 rfl (N := 6) rfl 22 _ _ rfl a0 rfl rfl Try.underlying22 (.int .i64 0) 8 info3 rfl (by decide) (by omega) 0 (ok := fun _ => True) (okp := fun _ => True) rfl (fun _ hk => hk) trivial (dT) (Nat.le_trans (Nat.mul_le_mul_right _ (dT : a0.toNat ≤ 35184372088832)) (by omega)) (Below.refl _ _) (Nat.le_refl _) ?_; intro v104 w4 ho5 hb hg_ hnew_; clear hg_ hnew_; (first | rw [← Ny103.out] at ho5 | (simp only [Int.reduceToNat] at ho5; rw [← Ny103.out] at ho5)); have HO105 := rL ho5 HB; replace HB := bS HB hb; clear hb ho5; obtain ⟨Ao6, co6, eo6⟩ := Kd.R_slice HO105.out; subst eo6))
  go_loopg [9] k (fun kq v9 w' => ∃ (x3_1 : List Int) (x9_1 : Int), v9 = .int .i64 x9_1 ∧ Aside0 (impl_still.l0 kq x3_1 (y103.length : Int) x9_1 = some r) ∧ Aside0 (kq ≤ k) ∧ Aside0 (Kd.R (Kd.int .i64) 3 w' w.heap.size (fun _ => True) (.slice Ao6 y103.length co6) x3_1) ∧ Aside0 (Below w.heap.size w w'))
  case atStart => exact ⟨(y103), (0), eS, H', ⟨Nat.le_refl _⟩, ⟨rP HO105⟩, ⟨bP HB⟩⟩
  case round =>
   clear H'
   try clear c2
   try clear c2b0
   try clear c2b1
   try clear p2
   try clear c3
   try clear c3b0
   try clear c3b1
   try clear c4
   obtain ⟨x3_1, x9_1, rfl, HA, HK1, HO_3, HB⟩ := hrel
   have hl3_1 := (Kd.R_reads' HO_3.out).1
   rw [hl3_1] at HO_3
   (try simp only [hl3_1])
   cases gk with
   | zero => exact absurd HA.out (by simp [impl_still.l0])
   | succ k1 =>
    have H := HA.out
    clear HA
    simp only [impl_still.l0] at H
    by_cases c7 : x9_1 < (y103.length : Int)
    case neg =>
     rw [if_neg c7] at H
     have c7b0 : decide (x9_1 < (y103.length : Int)) = false := decide_eq_false c7
     rw [hl3_1] at c7b0
     clear c7
     obtain rfl := Option.some.inj H
     go_wp2
     go_ret
     exact ⟨_, eR, rP HO_3, bP HB⟩
    rw [if_pos c7] at H
    have c7b0 : decide (x9_1 < (y103.length : Int)) = true := decide_eq_true c7
    clear c7
    by_cases c8 : 0 ≤ x9_1
    case neg =>
     rw [if_neg c8] at H
     exact absurd H (by simp)
    rw [if_pos c8] at H
    have c8b0 : decide (0 ≤ x9_1) = true := decide_eq_true c8
    clear c8
    by_cases c9 : x9_1 < (x3_1.length : Int)
    case neg =>
     rw [if_neg c9] at H
     exact absurd H (by simp)
    rw [if_pos c9] at H
    have c9b0 : decide (x9_1 < (x3_1.length : Int)) = true := decide_eq_true c9
    clear c9
    obtain ⟨y106, hy106⟩ : ∃ y_ : List Int, y_ = (x3_1.set (x9_1 : Int).toNat x9_1) := ⟨_, rfl⟩
    replace H : (impl_still.l0 k1 y106 (y103.length : Int) (wrap64 (x9_1 + 1))) = some r := by first | (rw [hy106]; with_reducible exact H) | (have H2_ := (Option.bind_some _ _).symm.trans H; rw [hy106]; with_reducible exact H2_) | (have H2_ := (Option.bind_some _ _).symm.trans H; with_reducible exact H2_) | with_reducible exact H | (rw [hy106]; exact H) | exact H
    have Ny106 := Aside0.mk hy106
    clear hy106
    have H' := Aside0.mk H
    clear H
    have p10 : 0 ≤ (x9_1 : Int) := dT
    have q10 : (x9_1 : Int) < ((x3_1.length : Int) : Int) := dT
    obtain ⟨go10, co10, eo10, gb10, gl10, cl10, HG10⟩ := Kd.R_form HO_3.out (by omega)
    (first | cases eo10 | (injection eo10 with ea_ en_ ec_; (first | subst ea_ | (injection ea_ with ea_; subst ea_)); subst ec_; clear en_))
    have GB10 := Aside0.mk gb10
    have GG10 := Aside0.mk HG10
    clear gb10 gl10 HG10
    obtain ⟨hx10_0, hf10_0⟩ := Kd.R_celln 0 HO_3.out (x9_1 : Int) p10 q10
    replace p10 := eq_true p10
    replace q10 := eq_true q10
    have HP11 := Kd.R_putg HO_3.out (x9_1 : Int) x9_1
    go_wp2_with (first | ((with_reducible refine gate_store (t := 3) (p := 15) rfl ?_); refine store_event (t := 3) (p := 15) (v := ?vo_w12) (w1 := (wr.setCell ⟨go10, (x9_1 : Int).toNat, none⟩ (.int .i64 x9_1))) ?hg ?ho ?hn ?hr ?_; (case ho => rfl); (case hg => rfl); (case hn => rfl); (case hr => first | (go_simp; done) | (go_simp; rfl)); intro w12 hw; have hg : wr.grownBy w12 (some go10) := (by rw [hw]; exact HP11.2); have hp_ : Kd.R (Kd.int .i64) 3 w12 w.heap.size (fun _ => True) (.slice (some ⟨go10, 0, none⟩) x3_1.length co6) y106 := (by rw [hw, Ny106.out]; exact HP11.1); clear HP11; replace HO_3 := Aside0.mk (hp_); replace HB := Aside0.mk ((by rw [hw]; exact below_set (HB.out) GB10.out : Below w.heap.size w w12)); clear hg hw hp_))
    (try simp only [← hl3_1])
    go_roundg k1
    case measure => have := HK1.out; omega
    case rel => exact ⟨(y106), (wrap64 (x9_1 + 1)), eS, H', ⟨by have := HK1.out; omega⟩, ⟨by (try simp only [hl3_1]); (with_reducible repeat (first | apply Kd.R_alloc | apply Kd.R_drewN | apply Kd.R_drew)); exact HO_3.out⟩, ⟨bP HB⟩⟩
 ·rw [if_neg c2] at H
  exact absurd H (by simp)

end Go.Proofs.Ytmjdmahgkidocaa.F
