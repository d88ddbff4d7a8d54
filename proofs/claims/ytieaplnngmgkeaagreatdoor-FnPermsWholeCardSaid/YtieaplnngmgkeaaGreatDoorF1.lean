/- Contracts: what these Go functions return. -/
import Derived.Test.YtieaplnngmgkeaaGreatDoorF0
namespace Go.Proofs.YtieaplnngmgkeaaGreatDoor.F
open Go.RowKit Go.Proofs.YtieaplnngmgkeaaGreatDoorW.PrintWords Go.Proofs.YtieaplnngmgkeaaGreatDoorW.PrintLast Go.Proofs.YtieaplnngmgkeaaGreatDoorW.PrintMore
attribute [local go_sem] max2_int min2_int max_two min_two max_three min_three max_four min_four
set_option linter.unusedVariables false
set_option linter.unusedSimpArgs false

/-! ### impl_PermValid: function 4 -/
/-- the cells of the array of what has been seen -/
def impl_PermValid.seenCells (l : List Int) (i : Nat) : Array Value := ((List.range 12).map fun (j : Nat) => Value.bool ((l.take i).contains (j : Int))).toArray
def impl_PermValid.okAt (l : List Int) (i : Nat) : Bool := decide (0 ≤ rd l i) && decide (rd l i < l.length) && !(l.take i).contains (rd l i)
def impl_PermValid.validB (l : List Int) : Bool := decide (1 ≤ l.length) && decide (l.length ≤ 12) && (List.range l.length).all (impl_PermValid.okAt l)
def impl_PermValid.f (l0 : List Int) : Option Bool := some (impl_PermValid.validB l0)
theorem impl_PermValid.seen_zero (l : List Int) : impl_PermValid.seenCells l 0 = #[Value.bool false, Value.bool false, Value.bool false, Value.bool false, Value.bool false, Value.bool false, Value.bool false, Value.bool false, Value.bool false, Value.bool false, Value.bool false, Value.bool false] := rfl
theorem impl_PermValid.seen_cell (l : List Int) (i : Nat) (x : Nat) (h : x < 12) : (impl_PermValid.seenCells l i)[x]? = some (Value.bool ((l.take i).contains (x : Int))) := by
 unfold impl_PermValid.seenCells
 simp [h]
theorem impl_PermValid.take_snoc (l : List Int) (i : Nat) (h : i < l.length) : l.take (i + 1) = l.take i ++ [rd l i] := by
 rw [List.take_succ_eq_append_getElem h]
 unfold rd
 simp [h]
theorem impl_PermValid.seen_set (l : List Int) (i : Nat) (h : i < l.length) (x : Nat) (hx : rd l i = x) : (impl_PermValid.seenCells l i).setIfInBounds x (Value.bool true) = impl_PermValid.seenCells l (i + 1) := by
 apply Array.ext_getElem?
 intro j
 unfold impl_PermValid.seenCells
 rw [impl_PermValid.take_snoc l i h, hx]
 simp only [List.setIfInBounds_toArray, List.getElem?_toArray, List.getElem?_set, List.length_map, List.length_range]
 by_cases e : x = j
 ·subst e
  by_cases hj : x < 12
  ·simp [hj]
  ·simp [hj]
 rw [if_neg e]
 by_cases hj : j < 12
 ·simp [hj]; omega
 ·simp [hj]
theorem impl_PermValid.rd_nat (l : List Int) (i : Nat) : rd l (i : Int) = rd l i := rfl

theorem impl_PermValid.valid_fail (l : List Int) (i : Nat) (h : i < l.length) (hx : impl_PermValid.okAt l i = false) : impl_PermValid.validB l = false := by
 unfold impl_PermValid.validB
 rw [Bool.and_eq_false_iff]
 right
 rw [List.all_eq_false]
 exact ⟨i, by simpa using h, by simp [hx]⟩
theorem impl_PermValid.valid_all (l : List Int) (h1 : 1 ≤ l.length) (h2 : l.length ≤ 12) (h : (List.range l.length).all (impl_PermValid.okAt l) = true) : impl_PermValid.validB l = true := by
 unfold impl_PermValid.validB
 simp [h1, h2, h]
theorem impl_PermValid.all_snoc (l : List Int) (i : Nat) (h : (List.range i).all (impl_PermValid.okAt l) = true) (hx : impl_PermValid.okAt l i = true) : (List.range (i + 1)).all (impl_PermValid.okAt l) = true := by
 rw [List.range_succ, List.all_append, h]
 simp [hx]
theorem impl_PermValid.valid_size (l : List Int) (h : ¬ (1 ≤ l.length ∧ l.length ≤ 12)) : impl_PermValid.validB l = false := by
 unfold impl_PermValid.validB
 by_cases a : 1 ≤ l.length
 ·have b : ¬ l.length ≤ 12 := fun b => h ⟨a, b⟩
  simp [b]
 ·simp [a]

set_option maxHeartbeats 8000000 in
set_option maxRecDepth 100000 in
theorem impl_PermValid.calls (A0 : Option Addr) (c0 : Nat) (l0 : List Int) (r : Bool) (w : World) (hr0 : Kd.C (Kd.int .i64) w A0 l0.length l0) (hc0 : l0.length ≤ c0) (h : impl_PermValid.f l0 = some r) :
 Calls Tryz.prog 4 #[.slice A0 l0.length c0] w fun e w' => e = .returned (.bool r) ∧ Below w.heap.size w w' := by
 have HR0 := Aside0.mk hr0
 have HC0 := Aside0.mk hc0
 clear hr0 hc0
 by_cases hn : 1 ≤ l0.length ∧ l0.length ≤ 12
 ·obtain ⟨hn1, hn2⟩ := hn
  have H := Aside0.mk h
  clear h
  go_enter Tryz.func4, Tryz.ntmps4
  go_wp2
  go_loopg [17] 12 (fun kq v17 w' => ∃ i : Nat, v17 = .int .i64 i ∧ Aside0 (i ≤ l0.length) ∧ Aside0 (i + kq = 12) ∧ Aside0 ((List.range i).all (impl_PermValid.okAt l0) = true) ∧ w' = w.alloc (.cells (impl_PermValid.seenCells l0 i) 32))
  case atStart => exact ⟨0, rfl, ⟨Nat.zero_le _⟩, ⟨rfl⟩, ⟨rfl⟩, by rw [impl_PermValid.seen_zero]⟩
  case round =>
   obtain ⟨i, rfl, hi, hk, hall, rfl⟩ := hrel
   have hb : Below w.heap.size w (w.alloc (.cells (impl_PermValid.seenCells l0 i) 32)) := (Below.refl _ _).alloc (Nat.le_refl _) _
   have HBel := Aside0.mk hb
   clear hb
   by_cases hlt : i < l0.length
   ·obtain ⟨ad, e, hx⟩ := Kd.at_int (Kd.C_below HR0.out HBel.out) (i : Int) (by omega) (by omega)
    cases e
    obtain ⟨x, hxe⟩ : ∃ x, x = rd l0 i := ⟨_, rfl⟩
    rw [impl_PermValid.rd_nat, ← hxe] at hx
    have HX := Aside0.mk hxe
    clear hxe
    have hx' : (w.alloc (.cells (impl_PermValid.seenCells l0 i) 32)).cell? (ad.add i) = some (.int .i64 x) := hx
    clear hx
    by_cases h1 : x < 0
    ·go_wp2
     go_ret
     have hf : impl_PermValid.okAt l0 i = false := by unfold impl_PermValid.okAt; rw [← HX.out]; simp; omega
     refine ⟨?_, HBel.out⟩
     have := H.out
     unfold impl_PermValid.f at this
     rw [impl_PermValid.valid_fail l0 i hlt hf] at this
     injection this with this
     subst this
     rfl
    by_cases h2 : x < l0.length
    ·obtain ⟨m, rfl⟩ : ∃ m : Nat, x = m := ⟨x.toNat, by omega⟩
     have hs : (impl_PermValid.seenCells l0 i)[m]? = some (Value.bool ((l0.take i).contains (m : Int))) := impl_PermValid.seen_cell l0 i m (by omega)
     obtain ⟨b, hb⟩ : ∃ b, b = (l0.take i).contains (m : Int) := ⟨_, rfl⟩
     rw [← hb] at hs
     have HBB := Aside0.mk hb
     clear hb
     cases b with
     | true =>
      go_wp2
      go_ret
      have hf : impl_PermValid.okAt l0 i = false := by unfold impl_PermValid.okAt; rw [← HX.out, ← HBB.out]; simp
      refine ⟨?_, HBel.out⟩
      have := H.out
      unfold impl_PermValid.f at this
      rw [impl_PermValid.valid_fail l0 i hlt hf] at this
      injection this with this
      subst this
      rfl
     | false =>
      go_wp2
      go_roundg (gk - 1)
      case measure => have := hk.out; omega
      case rel =>
       have hf : impl_PermValid.okAt l0 i = true := by unfold impl_PermValid.okAt; rw [← HX.out, ← HBB.out]; simp; omega
       refine ⟨i + 1, by go_num, ⟨by omega⟩, ⟨by have := hk.out; omega⟩, ⟨impl_PermValid.all_snoc l0 i hall.out hf⟩, ?_⟩
       rw [← impl_PermValid.seen_set l0 i hlt m HX.out.symm]
    go_wp2
    go_ret
    have hf : impl_PermValid.okAt l0 i = false := by unfold impl_PermValid.okAt; rw [← HX.out]; simp; omega
    refine ⟨?_, HBel.out⟩
    have := H.out
    unfold impl_PermValid.f at this
    rw [impl_PermValid.valid_fail l0 i hlt hf] at this
    injection this with this
    subst this
    rfl
   go_wp2
   go_ret
   have he : i = l0.length := by have := hi.out; omega
   refine ⟨?_, HBel.out⟩
   have := H.out
   unfold impl_PermValid.f at this
   rw [impl_PermValid.valid_all l0 hn1 hn2 (by rw [← he]; exact hall.out)] at this
   injection this with this
   subst this
   rfl
 ·have hv : impl_PermValid.validB l0 = false := impl_PermValid.valid_size l0 hn
  have hr : r = false := by
   unfold impl_PermValid.f at h
   rw [hv] at h
   injection h with h
   exact h.symm
  subst hr
  clear h
  have hb : Below w.heap.size w (w.alloc (.cells (impl_PermValid.seenCells l0 0) 32)) := (Below.refl _ _).alloc (Nat.le_refl _) _
  rw [impl_PermValid.seen_zero] at hb
  have HBel := Aside0.mk hb
  clear hb hv
  by_cases h1 : l0.length < 1
  ·have h2 : decide ((l0.length : Int) < 1) = true := by simp; omega
   clear h1 hn
   go_enter Tryz.func4, Tryz.ntmps4
   go_wp2
   go_ret
   exact ⟨rfl, HBel.out⟩
  ·have h2 : decide ((l0.length : Int) < 1) = false := by simp; omega
   have h3 : decide (12 < (l0.length : Int)) = true := by simp; omega
   clear h1 hn
   go_enter Tryz.func4, Tryz.ntmps4
   go_wp2
   go_ret
   exact ⟨rfl, HBel.out⟩

end Go.Proofs.YtieaplnngmgkeaaGreatDoor.F
