/- Contracts: what these Go functions return. -/
import Derived.Test.YtmjdmahgkidocaaF0
import Derived.Test.YtmjdmahgkidocaaF2
import Derived.Test.YtmjdmahgkidocaaF4
import Derived.Test.YtmjdmahgkidocaaF7
import Derived.Test.YtmjdmahgkidocaaF9
import Derived.Test.YtmjdmahgkidocaaF13
import Derived.Test.YtmjdmahgkidocaaF17
import Derived.Test.YtmjdmahgkidocaaF18
import Derived.Test.YtmjdmahgkidocaaF20
import Derived.Test.YtmjdmahgkidocaaF22
import Derived.Test.YtmjdmahgkidocaaF27
import Derived.Test.YtmjdmahgkidocaaF28
import Derived.Test.YtmjdmahgkidocaaF29
namespace Go.Proofs.Ytmjdmahgkidocaa.F
open Go.RowKit Go.Proofs.YtmjdmahgkidocaaW.PrintWords Go.Proofs.YtmjdmahgkidocaaW.PrintLast Go.Proofs.YtmjdmahgkidocaaW.PrintMore
attribute [local go_sem] max2_int min2_int max_two min_two max_three min_three max_four min_four
set_option linter.unusedVariables false
set_option linter.unusedSimpArgs false

/-! ### laws_FnMapWhole: function 3 -/
mutual
def laws_FnMapWhole.j0 : Nat → List Int → List Int → List Int → Bool → Option (Bool)
 | 0, _, _, _, _ => none
 | k + 1, x0, x1, x2, x44 => if x44 = true then (some true) else ((impl_MapValid.f k x0 x1).bind fun t431 => ((impl_MapCounts.f k x0 x1).bind fun bt432 => ((impl_MapGenus.f k x0 x1).bind fun t436 => ((spec_MapValid.f k x0 x1).bind fun t437 => (if (t431 != t437) = true then (laws_FnMapWhole.j1 k x0 x1 x2 t431 bt432.1 t436 true x0 x1) else (if (bt432.2 != t431) = true then (laws_FnMapWhole.j1 k x0 x1 x2 t431 bt432.1 t436 true x0 x1) else ((spec_MapGenus.f k x0 x1).bind fun t438 => (if t436 = t438 then ((impl_PermValid.f (([0] : List Int))).bind fun t442 => (laws_FnMapWhole.j1 k x0 x1 x2 t431 bt432.1 t436 (!t442) x0 x1)) else (laws_FnMapWhole.j1 k x0 x1 x2 t431 bt432.1 t436 true x0 x1)))))))))
def laws_FnMapWhole.j1 : Nat → List Int → List Int → List Int → Bool → List Int → Int → Bool → List Int → List Int → Option (Bool)
 | 0, _, _, _, _, _, _, _, _, _ => none
 | k + 1, x0, x1, x2, x8, x9, x11, x76, x431000, x431001 => if x76 = true then (some false) else ((impl_MapDual.f k x431000 x431001).bind fun bt443 => ((impl_MapMirror.f k x431000 x431001).bind fun bt451 => ((impl_MapRename.f k x431000 x431001 x2).bind fun bt459 => (if x8 = true then ((impl_MapDual.f k bt443.1 bt443.2.1).bind fun bt467 => ((impl_MapMirror.f k bt451.1 bt451.2.1).bind fun bt475 => ((impl_MapCounts.f k bt443.1 bt443.2.1).bind fun bt483 => ((impl_MapCounts.f k bt451.1 bt451.2.1).bind fun bt487 => (if bt443.2.2 = true then (if bt451.2.2 = true then (if bt467.2.2 = true then (if bt475.2.2 = true then (if bt483.2 = true then (if bt487.2 = true then (if (x9.length : Int) = 3 then (if 0 < (x9.length : Int) then (if 1 < (x9.length : Int) then (if 2 < (x9.length : Int) then (if (wrap64 ((wrap64 ((rd x9 0) - (rd x9 1))) + (rd x9 2))) = (wrap64 (2 - (wrap64 (2 * x11)))) then ((laws_sameInts.f k bt487.1 x9).bind fun t494 => (if t494 = true then ((laws_sameInts.f k bt483.1 (([rd x9 2, rd x9 1, rd x9 0] : List Int))).bind fun t501 => (laws_FnMapWhole.j2 k x0 x1 x2 x9 bt459.2.2 (!t501) x431000 x431001 bt459.1 bt459.2.1 bt467.1 bt467.2.1 bt475.1 bt475.2.1)) else (laws_FnMapWhole.j2 k x0 x1 x2 x9 bt459.2.2 true x431000 x431001 bt459.1 bt459.2.1 bt467.1 bt467.2.1 bt475.1 bt475.2.1))) else (laws_FnMapWhole.j2 k x0 x1 x2 x9 bt459.2.2 true x431000 x431001 bt459.1 bt459.2.1 bt467.1 bt467.2.1 bt475.1 bt475.2.1)) else (none)) else (none)) else (none)) else (laws_FnMapWhole.j2 k x0 x1 x2 x9 bt459.2.2 true x431000 x431001 bt459.1 bt459.2.1 bt467.1 bt467.2.1 bt475.1 bt475.2.1)) else (laws_FnMapWhole.j2 k x0 x1 x2 x9 bt459.2.2 true x431000 x431001 bt459.1 bt459.2.1 bt467.1 bt467.2.1 bt475.1 bt475.2.1)) else (laws_FnMapWhole.j2 k x0 x1 x2 x9 bt459.2.2 true x431000 x431001 bt459.1 bt459.2.1 bt467.1 bt467.2.1 bt475.1 bt475.2.1)) else (laws_FnMapWhole.j2 k x0 x1 x2 x9 bt459.2.2 true x431000 x431001 bt459.1 bt459.2.1 bt467.1 bt467.2.1 bt475.1 bt475.2.1)) else (laws_FnMapWhole.j2 k x0 x1 x2 x9 bt459.2.2 true x431000 x431001 bt459.1 bt459.2.1 bt467.1 bt467.2.1 bt475.1 bt475.2.1)) else (laws_FnMapWhole.j2 k x0 x1 x2 x9 bt459.2.2 true x431000 x431001 bt459.1 bt459.2.1 bt467.1 bt467.2.1 bt475.1 bt475.2.1)) else (laws_FnMapWhole.j2 k x0 x1 x2 x9 bt459.2.2 true x431000 x431001 bt459.1 bt459.2.1 bt467.1 bt467.2.1 bt475.1 bt475.2.1)))))) else (if x11 = (-1) then (if bt443.2.2 = true then (some false) else (if bt451.2.2 = true then (some false) else (some (!bt459.2.2)))) else (some false))))))
def laws_FnMapWhole.j2 : Nat → List Int → List Int → List Int → List Int → Bool → Bool → List Int → List Int → List Int → List Int → List Int → List Int → List Int → List Int → Option (Bool)
 | 0, _, _, _, _, _, _, _, _, _, _, _, _, _, _ => none
 | k + 1, x0, x1, x2, x9, x17, x193, x431000, x431001, x467000, x467001, x475000, x475001, x483000, x483001 => if x193 = true then (some false) else ((laws_sameInts.f k x475000 x0).bind fun t502 => (if t502 = true then ((laws_sameInts.f k x475001 x1).bind fun t503 => (if t503 = true then ((laws_sameInts.f k x483000 x0).bind fun t504 => (if t504 = true then ((laws_sameInts.f k x483001 x1).bind fun t505 => (laws_FnMapWhole.j3 k x0 x2 x9 x17 (!t505) x431000 x431001 x467000 x467001)) else (laws_FnMapWhole.j3 k x0 x2 x9 x17 true x431000 x431001 x467000 x467001))) else (laws_FnMapWhole.j3 k x0 x2 x9 x17 true x431000 x431001 x467000 x467001))) else (laws_FnMapWhole.j3 k x0 x2 x9 x17 true x431000 x431001 x467000 x467001)))
def laws_FnMapWhole.j3 : Nat → List Int → List Int → List Int → Bool → Bool → List Int → List Int → List Int → List Int → Option (Bool)
 | 0, _, _, _, _, _, _, _, _, _ => none
 | k + 1, x0, x2, x9, x17, x219, x431000, x431001, x467000, x467001 => if x219 = true then (some false) else ((impl_PermValid.f x2).bind fun t506 => (if t506 = true then (laws_FnMapWhole.j4 k x9 x17 (x17 != ((x2.length : Int) == (x0.length : Int))) x431000 x431001 x467000 x467001) else (laws_FnMapWhole.j4 k x9 x17 (x17 != false) x431000 x431001 x467000 x467001)))
def laws_FnMapWhole.j4 : Nat → List Int → Bool → Bool → List Int → List Int → List Int → List Int → Option (Bool)
 | 0, _, _, _, _, _, _, _ => none
 | k + 1, x9, x17, x230, x431000, x431001, x467000, x467001 => if x230 = true then (some false) else (if x17 = true then ((impl_MapCounts.f k x467000 x467001).bind fun bt507 => ((impl_MapLeast.f k x431000 x431001).bind fun bt511 => ((impl_MapLeast.f k x467000 x467001).bind fun bt519 => (if bt507.2 = true then (if bt511.2.2 = true then (if bt519.2.2 = true then ((laws_sameInts.f k bt507.1 x9).bind fun t527 => (if t527 = true then ((impl_MapSame.f k x431000 x431001 x467000 x467001).bind fun t528 => (if t528 = true then ((impl_MapTurns.f k x431000 x431001).bind fun t529 => ((impl_MapTurns.f k x467000 x467001).bind fun t530 => (if t529 = t530 then ((laws_sameInts.f k bt511.1 bt519.1).bind fun t531 => (if t531 = true then ((laws_sameInts.f k bt511.2.1 bt519.2.1).bind fun t532 => (some t532)) else (some false))) else (some false)))) else (some false))) else (some false))) else (some false)) else (some false)) else (some false))))) else (some true))
end
def laws_FnMapWhole.f (k : Nat) (l0 : List Int) (l1 : List Int) (l2 : List Int) : Option (Bool) := if (l0.length : Int) > 2147483647 then (laws_FnMapWhole.j0 k l0 l1 l2 true) else (if (l1.length : Int) > 2147483647 then (laws_FnMapWhole.j0 k l0 l1 l2 true) else (laws_FnMapWhole.j0 k l0 l1 l2 (decide ((l2.length : Int) > 2147483647))))
def laws_FnMapWhole.T18 : Bool × List (List Nat × List Nat) := (true, [([], []), ([0], [0]), ([1], [1]), ([2], [2]), ([3, 2], [2, 3]), ([2, 4], [2, 4]), ([5, 2], [5]), ([6], [6]), ([7, 6], [6, 7]), ([6, 8], [6, 8]), ([9, 6], [9]), ([10], [10]), ([11, 10], [10, 11]), ([10, 12], [10, 12]), ([13, 10], [13]), ([14], [14]), ([15, 14], [14, 15]), ([14, 16], [14, 16]), ([17, 14], [17]), ([18], [18]), ([19, 18], [18, 19]), ([18, 20], [18, 20]), ([21, 18], [21]), ([22], [22]), ([23, 22], [22, 23]), ([24, 22], [22, 24]), ([22, 25], [22, 25]), ([26, 22], [26]), ([27], [27]), ([28, 27], [27, 28]), ([29, 27], [27, 29]), ([27], [27]), ([31, 27], [27, 31]), ([32, 27], [27, 32]), ([30, 33, 27], [27, 30, 33]), ([27], [27]), ([35, 27], [27, 35]), ([36, 27], [27, 36]), ([34, 37, 27], [27, 34, 37]), ([27], [27]), ([39, 27], [27, 39]), ([40, 27], [27, 40]), ([38, 41, 27], [27, 38, 41]), ([27, 42], [27, 42]), ([43, 27], [43]), ([44], [44]), ([44], [44]), ([45, 46, 44, 44], [44, 45, 46]), ([47, 44], [44, 47]), ([44, 48], [44, 48]), ([49, 47], [49]), ([50], [50]), ([50], [50]), ([52, 50], [50, 52]), ([53, 50], [50, 53]), ([50], [50]), ([55, 50], [50, 55]), ([56, 50], [50, 56]), ([50], [50]), ([58, 50], [50, 58]), ([59, 50], [50, 59]), ([54, 57, 60, 50], [50, 54, 57, 60]), ([51, 61, 50, 50], [50, 51, 61]), ([62, 50], [50, 62]), ([50, 63], [50, 63])])
def laws_FnMapWhole.B18 : List Nat := [0, 1, 3, 7, 15, 31, 63, 127, 255, 511, 1023, 2047, 4095, 8191, 16383, 32767, 65535, 131071, 262143, 524287, 1048575, 2097151, 4194303, 8388607, 16777215, 33554431, 67108863, 134217727, 268435455, 536870911, 1073741823, 268435455, 2415919103, 6710886399, 17179869183, 268435455, 34628173823, 103347650559, 274877906943, 268435455, 550024249343, 1649535877119, 4398046511103, 8796093022207, 17592186044415, 35184372088831, 35184372088831, 140737488355327, 281474976710655, 562949953421311, 1125899906842623, 2251799813685247, 2251799813685247, 6755399441055743, 15762598695796735, 2251799813685247, 38280596832649215, 110338190870577151, 2251799813685247, 290482175965396991, 866942928268820479, 2303591209400008703, 4611686018427387903, 9223372036854775807, 18446744073709551615]
theorem laws_FnMapWhole.tab18 : rtab .any (opsOf Try.f3 18) = laws_FnMapWhole.T18 := by kernel_rfl
theorem laws_FnMapWhole.bits18 : waitsOk laws_FnMapWhole.T18.2 laws_FnMapWhole.B18 = true := by kernel_rfl
def laws_FnMapWhole.T29 : Bool × List (List Nat × List Nat) := (true, [([], []), ([0], [0]), ([1], [1]), ([1, 2], [1, 2]), ([3, 1], [3]), ([4], [4]), ([4, 5], [4, 5]), ([6, 4], [6]), ([7], [7]), ([7], [7]), ([8, 9, 7, 7], [7, 8, 9]), ([7, 10], [7, 10]), ([11, 10], [11]), ([12], [12]), ([12], [12]), ([13, 14, 12, 12], [12, 13, 14]), ([12, 15], [12, 15]), ([16, 15], [16]), ([17], [17]), ([18, 17, 17], [17, 18]), ([17], [17]), ([20, 19, 17], [17, 20]), ([19, 21, 17], [17, 19, 21]), ([17, 22], [17, 22]), ([23, 21], [23]), ([24], [24]), ([25, 24], [24, 25]), ([24], [24]), ([27, 24], [24, 27]), ([26, 28, 24, 24], [24, 26, 28]), ([24, 29], [24, 29]), ([30, 29], [30]), ([31], [31]), ([32, 31], [31, 32]), ([31], [31]), ([34, 31], [31, 34]), ([33, 35, 31, 31], [31, 33, 35]), ([31, 36], [31, 36]), ([37, 36, 0, 1, 2, 3, 4, 5, 6, 7, 8, 9, 10, 11, 12, 13, 14, 15, 16, 17, 18, 19, 20, 21, 22, 23, 24, 25, 26, 27, 28, 29, 30, 31, 32, 33, 34, 35, 36, 37], [37])])
def laws_FnMapWhole.B29 : List Nat := [0, 1, 3, 7, 15, 31, 63, 127, 255, 255, 1023, 2047, 4095, 8191, 8191, 32767, 65535, 131071, 262143, 524287, 262143, 2097151, 4194303, 8388607, 16777215, 33554431, 67108863, 33554431, 167772159, 536870911, 1073741823, 2147483647, 4294967295, 8589934591, 4294967295, 21474836479, 68719476735, 137438953471, 274877906943]
theorem laws_FnMapWhole.tab29 : rtab .any (opsOf Try.f3 29) = laws_FnMapWhole.T29 := by kernel_rfl
theorem laws_FnMapWhole.bits29 : waitsOk laws_FnMapWhole.T29.2 laws_FnMapWhole.B29 = true := by kernel_rfl
theorem laws_FnMapWhole.j1_no (k : Nat) (x0 : List Int) (x1 : List Int) (x2 : List Int) (x8 : Bool) (x9 : List Int) (x11 : Int) (x431000 : List Int) (x431001 : List Int) : laws_FnMapWhole.j1 k x0 x1 x2 x8 x9 x11 true x431000 x431001 = some true → False := by
 cases k with
 | zero => intro h; rw [laws_FnMapWhole.j1] at h; cases h
 | succ k => intro h; rw [laws_FnMapWhole.j1, if_pos rfl] at h; cases h
theorem laws_FnMapWhole.j2_no (k : Nat) (x0 : List Int) (x1 : List Int) (x2 : List Int) (x9 : List Int) (x17 : Bool) (x431000 : List Int) (x431001 : List Int) (x467000 : List Int) (x467001 : List Int) (x475000 : List Int) (x475001 : List Int) (x483000 : List Int) (x483001 : List Int) : laws_FnMapWhole.j2 k x0 x1 x2 x9 x17 true x431000 x431001 x467000 x467001 x475000 x475001 x483000 x483001 = some true → False := by
 cases k with
 | zero => intro h; rw [laws_FnMapWhole.j2] at h; cases h
 | succ k => intro h; rw [laws_FnMapWhole.j2, if_pos rfl] at h; cases h
theorem laws_FnMapWhole.j3_no (k : Nat) (x0 : List Int) (x2 : List Int) (x9 : List Int) (x17 : Bool) (x431000 : List Int) (x431001 : List Int) (x467000 : List Int) (x467001 : List Int) : laws_FnMapWhole.j3 k x0 x2 x9 x17 true x431000 x431001 x467000 x467001 = some true → False := by
 cases k with
 | zero => intro h; rw [laws_FnMapWhole.j3] at h; cases h
 | succ k => intro h; rw [laws_FnMapWhole.j3, if_pos rfl] at h; cases h
set_option maxHeartbeats 8000000 in
set_option maxRecDepth 100000 in
theorem laws_FnMapWhole.calls (k : Nat) (A0 : Option Addr) (c0 : Nat) (l0 : List Int) (A1 : Option Addr) (c1 : Nat) (l1 : List Int) (A2 : Option Addr) (c2 : Nat) (l2 : List Int) (r : Bool) (w : World) (hr0 : Kd.C (Kd.int .i64) w A0 l0.length l0) (hc0 : l0.length ≤ c0) (hr1 : Kd.C (Kd.int .i64) w A1 l1.length l1) (hc1 : l1.length ≤ c1) (hr2 : Kd.C (Kd.int .i64) w A2 l2.length l2) (hc2 : l2.length ≤ c2) (hr_ : Aside0 (r = true)) (h : laws_FnMapWhole.f k l0 l1 l2 = some r) :
 Calls Try.prog 3 #[.slice A0 l0.length c0, .slice A1 l1.length c1, .slice A2 l2.length c2] w fun e w' => e = .returned (.bool r) ∧ Below w.heap.size w w' := by
 have hu24 := Try.underlying24
 have HR0 := Aside0.mk hr0
 have HC0 := Aside0.mk hc0
 clear hr0 hc0
 have HR1 := Aside0.mk hr1
 have HC1 := Aside0.mk hc1
 clear hr1 hc1
 have HR2 := Aside0.mk hr2
 have HC2 := Aside0.mk hc2
 clear hr2 hc2
 have HB := Aside0.mk (Below.refl w.heap.size w)
 have H : (if (l0.length : Int) > 2147483647 then (laws_FnMapWhole.j0 k l0 l1 l2 true) else (if (l1.length : Int) > 2147483647 then (laws_FnMapWhole.j0 k l0 l1 l2 true) else (laws_FnMapWhole.j0 k l0 l1 l2 (decide ((l2.length : Int) > 2147483647))))) = some r := h
 clear h
 have HC4 := Aside0.mk H
 clear H
 go_enter Try.func3, Try.ntmps3
 go_upto_region 1 with (fail)
 as_aux_lemma =>
 go_cut [44] (fun v44 wc => ∃ (kq : Nat) (x44_3 : Bool), v44 = .bool x44_3 ∧ Aside0 (laws_FnMapWhole.j0 kq l0 l1 l2 x44_3 = some r) ∧ Aside0 (kq ≤ k) ∧ Aside0 (Below w.heap.size w wc))
 case first =>
  have H := HC4.out
  clear HC4
  by_cases c5 : (l0.length : Int) > 2147483647
  ·rw [if_pos c5] at H
   have c5b0 : decide (2147483647 < (l0.length : Int)) = true := decide_eq_true c5
   have c5b1 : decide (2147483647 < l0.length) = true := decide_eq_true (by omega)
   clear c5
   (first | rw [c5b0] | (simp only [i64_w, i32_w]; rw [c5b0]) | skip)
   have H' := Aside0.mk H
   clear H
   go_wp2
   go_meet
   case rel => exact ⟨_, (true), eS, H', ⟨by first | omega | exact Nat.le_refl _⟩, ⟨bP HB⟩⟩
  rw [if_neg c5] at H
  have c5b0 : decide (2147483647 < (l0.length : Int)) = false := decide_eq_false c5
  have c5b1 : decide (2147483647 < l0.length) = false := decide_eq_false (by omega)
  clear c5
  (first | rw [c5b0] | (simp only [i64_w, i32_w]; rw [c5b0]) | skip)
  by_cases c6 : (l1.length : Int) > 2147483647
  ·rw [if_pos c6] at H
   have c6b0 : decide (2147483647 < (l1.length : Int)) = true := decide_eq_true c6
   have c6b1 : decide (2147483647 < l1.length) = true := decide_eq_true (by omega)
   clear c6
   have H' := Aside0.mk H
   clear H
   go_wp2
   go_meet
   case rel => exact ⟨_, (true), eS, H', ⟨by first | omega | exact Nat.le_refl _⟩, ⟨bP HB⟩⟩
  rw [if_neg c6] at H
  as_aux_lemma =>
  have c6b0 : decide (2147483647 < (l1.length : Int)) = false := decide_eq_false c6
  have c6b1 : decide (2147483647 < l1.length) = false := decide_eq_false (by omega)
  clear c6
  have H' := Aside0.mk H
  clear H
  go_wp2
  go_meet
  case rel => exact ⟨_, (decide ((l2.length : Int) > 2147483647)), eS, H', ⟨by first | omega | exact Nat.le_refl _⟩, ⟨bP HB⟩⟩
 case rest =>
  clear HC4
  try clear c1
  try clear c2
  try clear p2
  try clear c3
  try clear c5
  try clear c5b0
  try clear c5b1
  try clear c6
  try clear c6b0
  try clear c6b1
  obtain ⟨kq, x44_3, rfl, HA, HJ3, HB⟩ := hcut
  cases kq with
  | zero => exact absurd HA.out (by simp [laws_FnMapWhole.j0])
  | succ kj3 =>
   have H := HA.out
   clear HA
   simp only [laws_FnMapWhole.j0] at H
   by_cases c7 : x44_3 = true
   ·subst c7
    rw [if_pos rfl] at H
    as_aux_lemma =>
    obtain rfl := Option.some.inj H
    go_wp2
    go_ret
    exact ⟨eR, bP HB⟩
   ·replace c7 := Bool.eq_false_iff.mpr c7
    subst c7
    rw [iF] at H
    obtain ⟨t431, A80, H⟩ := Option.bind_eq_some_iff.mp H
    have A8 := Aside0.mk A80
    clear A80
    obtain ⟨⟨t432, t435⟩, A90, H⟩ := Option.bind_eq_some_iff.mp H
    dsimp only at H
    have A9 := Aside0.mk A90
    clear A90
    obtain ⟨t436, A100, H⟩ := Option.bind_eq_some_iff.mp H
    have A10 := Aside0.mk A100
    clear A100
    have HC11 := Aside0.mk H
    clear H
    as_aux_lemma =>
    go_upto_region 7 with (first | ((with_reducible refine gate_dst (N := 7) rfl ?_); (try (refine gate_guard (by rfl) ?_; dsimp only)); refine bE 7 #[.slice none 0 0, .slice none 0 0] 24 ?_; intro gb430 hg w12 hbox hb; have BK430 := Aside0.mk (hbox); have GW430 := gS HB hg; have GE430 := gS HB hg; replace HB := bS HB hb; clear hb hbox hg; have hcz13_0 := zc0 BK430; have hcz13_1 := zc1 BK430; have hfz13_0 := blk_frozen BK430.out 0; have hfz13_1 := blk_frozen BK430.out 1) | ((with_reducible refine gate_store (t := 24) (p := 7) rfl ?_); refine store_event (t := 24) (p := 7) (v := ?vo_w14) (w1 := ((w12.setCell ⟨gb430, 0, none⟩ (.slice A0 l0.length c0)).setCell ⟨gb430, 1, none⟩ (.slice A1 l1.length c1))) ?hg ?ho ?hn ?hr ?_; (case ho => rfl); (case hg => rfl); (case hn => rfl); (case hr => first | (go_simp; done) | (go_simp; rfl)); intro w14 hw; have n0_ : Aside0 (w14.heap[gb430]? = some (.cells #[.slice A0 l0.length c0, .slice A1 l1.length c1] 24 (0, 0))) := ⟨(by rw [hw]; exact (by (with_reducible repeat (first | refine blk_drewN ?_ _ | refine blk_drew ?_ | refine blk_alloc ?_ _)); refine blk_put (cs := #[.slice A0 l0.length c0, .slice none 0 0]) ?_ 1 _ rfl; (with_reducible repeat (first | refine blk_drewN ?_ _ | refine blk_drew ?_ | refine blk_alloc ?_ _)); refine blk_put (cs := #[.slice none 0 0, .slice none 0 0]) ?_ 0 _ rfl; (with_reducible repeat (first | refine blk_drewN ?_ _ | refine blk_drew ?_ | refine blk_alloc ?_ _)); exact BK430.out))⟩; have n1_ : Aside0 (Below w.heap.size w w14) := ⟨(by rw [hw]; exact (bP HB))⟩; clear hw; clear BK430; clear HB; have BK430 := n0_; have HB := n1_; clear n0_ n1_; have hcz15_0 := zc0 BK430; have hcz15_1 := zc1 BK430; have hfz15_0 := blk_frozen BK430.out 0; have hfz15_1 := blk_frozen BK430.out 1) | ((with_reducible refine gate_callee (f := 6) rfl ?_); refine gL (some 49) Try.func6 #[.agg #[.slice A0 l0.length c0, .slice A1 l1.length c1]] ?_; (with_reducible refine (impl_MapValid.calls kj3 (fun k_ => k_ < w.heap.size) _ _ l0 (fun k_ => k_ < w.heap.size) _ _ l1 t431 _ ?side1 ?side2 A8.out).mono ?_); (case side1 => exact Kd.V_mk HC0.out (Kd.F_below (Kd.C_F (Kd.heap_int .i64) HR0.out) (bP HB))); (case side2 => exact Kd.V_mk HC1.out (Kd.F_below (Kd.C_F (Kd.heap_int .i64) HR1.out) (bP HB))); rintro e w16 ⟨rfl, hb⟩; refine ⟨_, rfl, ?_⟩; replace BK430 := kB BK430 hb; replace HB := bS HB hb; (try clear hb); (try clear hb2); (try clear hk); (try clear hi); have hcz17_0 := zc0 BK430; have hcz17_1 := zc1 BK430; have hfz17_0 := blk_frozen BK430.out 0; have hfz17_1 := blk_frozen BK430.out 1) | ((with_reducible refine gate_callee (f := 7) rfl ?_); refine gL (some 52) Try.func7 #[.agg #[.slice A0 l0.length c0, .slice A1 l1.length c1]] ?_; (with_reducible refine (impl_MapCounts.calls kj3 _ _ l0 _ _ l1 t432 t435 _ ?side1 ?side2 ?side3 ?side4 A9.out).mono ?_); (case side1 => exact cB HR0 HB); (case side2 => exact HC0.out); (case side3 => exact cB HR1 HB); (case side4 => exact HC1.out); rintro e w18 ⟨v433, rfl, ho0, hb⟩; refine ⟨_, rfl, ?_⟩; have HO434 := rL ho0 HB; replace BK430 := kB BK430 hb; replace HB := bS HB hb; (try clear hb); (try clear hb2); (try clear hk); (try clear hi); (try clear ho0); have hcz19_0 := zc0 BK430; have hcz19_1 := zc1 BK430; have hfz19_0 := blk_frozen BK430.out 0; have hfz19_1 := blk_frozen BK430.out 1) | ((with_reducible refine gate_callee (f := 8) rfl ?_); refine gL (some 56) Try.func8 #[.agg #[.slice A0 l0.length c0, .slice A1 l1.length c1]] ?_; (with_reducible refine (impl_MapGenus.calls kj3 _ _ l0 _ _ l1 t436 _ ?side1 ?side2 ?side3 ?side4 A10.out).mono ?_); (case side1 => exact cB HR0 HB); (case side2 => exact HC0.out); (case side3 => exact cB HR1 HB); (case side4 => exact HC1.out); rintro e w20 ⟨rfl, hb⟩; refine ⟨_, rfl, ?_⟩; replace HO434 := rB HO434 hb; replace BK430 := kB BK430 hb; replace HB := bS HB hb; (try clear hb); (try clear hb2); (try clear hk); (try clear hi)))
    (try simp only [Act.put, List.setIfInBounds_toArray, List.set_cons_zero, List.set_cons_succ])
    go_cut [76] (fun v76 wc => ∃ (kq : Nat) (x76_10 : Bool), v76 = .bool x76_10 ∧ Aside0 (laws_FnMapWhole.j1 kq l0 l1 l2 t431 t432 t436 x76_10 l0 l1 = some r) ∧ Aside0 (kq ≤ kj3) ∧ Aside0 (Kd.R (Kd.int .i64) 3 wc w.heap.size (fun _ => True) v433 t432) ∧ Aside0 (wc.heap[gb430]? = some (.cells #[(.slice A0 l0.length c0), (.slice A1 l1.length c1)] 24 (0, 0))) ∧ Aside0 (Below w.heap.size w wc))
    case first =>
     have H := HC11.out
     clear HC11
     obtain ⟨t437, A210, H⟩ := Option.bind_eq_some_iff.mp H
     have A21 := Aside0.mk A210
     clear A210
     by_cases c22 : (t431 != t437) = true
     ·rw [if_pos c22] at H
      have c22b0 : (t431 != t437) = true := c22
      (try (have c22b1 : decide (t431 = t437) = false := by simpa using c22))
      (try (have c22b2 : (t431 == t437) = false := by simpa using c22))
      (try (have c22b3 : ¬ (t431 = t437) := by simpa using c22))
      clear c22
      (first | rw [c22b0] | (simp only [i64_w, i32_w]; rw [c22b0]) | skip)
      exact (laws_FnMapWhole.j1_no _ _ _ _ _ _ _ _ _ (H.trans (congrArg some hr_.out))).elim
     rw [if_neg c22] at H
     have c22b0 : (t431 != t437) = false := by simpa using c22
     (try (have c22b1 : decide (t431 = t437) = true := by simpa using c22))
     (try (have c22b2 : (t431 == t437) = true := by simpa using c22))
     clear c22
     (first | rw [c22b0] | (simp only [i64_w, i32_w]; rw [c22b0]) | skip)
     by_cases c23 : (t435 != t431) = true
     ·rw [if_pos c23] at H
      have c23b0 : (t435 != t431) = true := c23
      (try (have c23b1 : decide (t435 = t431) = false := by simpa using c23))
      (try (have c23b2 : (t435 == t431) = false := by simpa using c23))
      (try (have c23b3 : ¬ (t435 = t431) := by simpa using c23))
      as_aux_lemma =>
      clear c23
      exact (laws_FnMapWhole.j1_no _ _ _ _ _ _ _ _ _ (H.trans (congrArg some hr_.out))).elim
     rw [if_neg c23] at H
     have c23b0 : (t435 != t431) = false := by simpa using c23
     (try (have c23b1 : decide (t435 = t431) = true := by simpa using c23))
     (try (have c23b2 : (t435 == t431) = true := by simpa using c23))
     clear c23
     obtain ⟨t438, A240, H⟩ := Option.bind_eq_some_iff.mp H
     have A24 := Aside0.mk A240
     clear A240
     by_cases c25 : t436 = t438
     case neg =>
      rw [if_neg c25] at H
      have c25b0 : (t436 == t438) = false := beq_eq_false_iff_ne.mpr c25
      have c25b1 : (t436 != t438) = true := bne_iff_ne.mpr c25
      exact (laws_FnMapWhole.j1_no _ _ _ _ _ _ _ _ _ (H.trans (congrArg some hr_.out))).elim
     rw [if_pos c25] at H
     have c25b0 : (t436 == t438) = true := beq_iff_eq.mpr c25
     have c25b1 : (t436 != t438) = false := bne_eq_false_iff_eq.mpr c25
     clear c25
     obtain ⟨y439, hy439⟩ : ∃ y_ : List Int, y_ = (([0] : List Int)) := ⟨_, rfl⟩
     replace H : ((impl_PermValid.f y439).bind fun t442 => (laws_FnMapWhole.j1 kj3 l0 l1 l2 t431 t432 t436 (!t442) l0 l1)) = some r := by first | (rw [hy439]; with_reducible exact H) | (have H2_ := (Option.bind_some _ _).symm.trans H; rw [hy439]; with_reducible exact H2_) | (have H2_ := (Option.bind_some _ _).symm.trans H; with_reducible exact H2_) | with_reducible exact H | (rw [hy439]; exact H) | exact H
     have Ny439 := Aside0.mk hy439
     clear hy439
     obtain ⟨t442, A260, H⟩ := Option.bind_eq_some_iff.mp H
     have A26 := Aside0.mk A260
     clear A260
     have H' := Aside0.mk H
     clear H
     have hcz27_0 := zc0 BK430
     as_aux_lemma =>
     have hcz27_1 := zc1 BK430
     have hfz27_0 := blk_frozen BK430.out 0
     have hfz27_1 := blk_frozen BK430.out 1
     go_wp2_with (first | ((with_reducible refine gate_callee (f := 9) rfl ?_); refine gL (some 59) Try.func9 #[.agg #[.slice A0 l0.length c0, .slice A1 l1.length c1]] ?_; (with_reducible refine (spec_MapValid.calls kj3 _ _ l0 _ _ l1 t437 _ ?side1 ?side2 ?side3 ?side4 A21.out).mono ?_); (case side1 => exact cB HR0 HB); (case side2 => exact HC0.out); (case side3 => exact cB HR1 HB); (case side4 => exact HC1.out); rintro e w28 ⟨rfl, hb⟩; refine ⟨_, rfl, ?_⟩; replace HO434 := rB HO434 hb; replace BK430 := kB BK430 hb; replace HB := bS HB hb; (try clear hb); (try clear hb2); (try clear hk); (try clear hi); have hcz29_0 := zc0 BK430; have hcz29_1 := zc1 BK430; have hfz29_0 := blk_frozen BK430.out 0; have hfz29_1 := blk_frozen BK430.out 1) | (go_at_call 10; (with_reducible refine (spec_MapGenus.calls kj3 _ _ l0 _ _ l1 t438 _ ?side1 ?side2 ?side3 ?side4 A24.out).mono ?_); (case side1 => exact cB HR0 HB); (case side2 => exact HC0.out); (case side3 => exact cB HR1 HB); (case side4 => exact HC1.out); rintro e w30 ⟨rfl, hb⟩; replace HO434 := rB HO434 hb; replace BK430 := kB BK430 hb; replace HB := bS HB hb; (try clear hb); (try clear hb2); (try clear hk); (try clear hi)) | ((with_reducible refine gate_dst (N := 73) rfl ?_); (try (refine gate_guard (by rfl) ?_; dsimp only)); refine Kd.R_lit (Kd.int .i64) _ 3 ?hg (N := 73) ?hd (xs := ([0] : List Int)) (inner := [.int .i64 0]) (ok := fun _ => True) (okp := fun _ => True) ?hr ?hp (fun _ hk => hk) trivial (Below.refl _ _) (Nat.le_refl _) (by simp) ?_; (case hd => rfl); (case hg => rfl); (case hr => first | (go_simp; done) | (go_simp; rfl)); (case hp => exact (Reps.one (show Kd.M (Kd.int .i64) _ _ _ 0 [.int .i64 0] from rfl) (Reps.none _ _))); intro v440 w31 ho32 hb hg_ hnew_; clear hg_ hnew_; (first | rw [← Ny439.out] at ho32 | (simp only [Int.reduceToNat] at ho32; rw [← Ny439.out] at ho32)); have HO441 := Aside0.mk (Kd.R_lower (Kd.R_new' ho32 (Kd.R_lt (rP HO434))) (below_size (bP HB))); replace HO434 := Aside0.mk (Kd.R_elder' (rP HO434) (Kd.R_base ho32) hb); replace BK430 := kB BK430 hb; replace HB := bS HB hb; clear hb ho32; obtain ⟨Ao33, co33, eo33⟩ := Kd.R_slice HO441.out; subst eo33) | (go_at_call 11; (with_reducible refine (impl_PermValid.calls _ _ y439 t442 _ ?side1 ?side2 A26.out).mono ?_); (case side1 => exact cP (Kd.R_reads' HO441.out).2.2); (case side2 => exact (Kd.R_reads' HO441.out).2.1); rintro e w34 ⟨rfl, hb⟩; replace HO434 := rB HO434 hb; replace HO441 := rB HO441 hb; replace BK430 := kB BK430 hb; replace HB := bS HB hb; (try clear hb); (try clear hb2); (try clear hk); (try clear hi)))
     go_meet
     case rel => exact ⟨_, (!t442), eS, H', ⟨by have := HJ3.out; first | omega | exact Nat.le_refl _⟩, ⟨rT (Kd.R_mono HO434.out (fun _ hk => trivial))⟩, ⟨kP BK430⟩, ⟨bP HB⟩⟩
    case rest =>
     clear HC11
     try clear c1
     try clear c2
     try clear p2
     try clear c3
     try clear c5
     try clear c5b0
     try clear c5b1
     try clear c6
     try clear c6b0
     try clear c6b1
     try clear c7
     try clear c8
     try clear c9
     try clear c22
     try clear c22b0
     try clear c22b1
     try clear c22b2
     try clear c23
     try clear c23b0
     try clear c23b1
     try clear c23b2
     try clear c25
     try clear c25b0
     try clear c25b1
     try clear hcz13_0
     try clear hcz13_1
     try clear hcz15_0
     try clear hcz15_1
     try clear hcz17_0
     try clear hcz17_1
     try clear hcz19_0
     try clear hcz19_1
     try clear hcz27_0
     try clear hcz27_1
     try clear hcz29_0
     try clear hcz29_1
     try clear hfz13_0
     try clear hfz13_1
     try clear hfz15_0
     try clear hfz15_1
     try clear hfz17_0
     try clear hfz17_1
     try clear hfz19_0
     try clear hfz19_1
     try clear hfz27_0
     try clear hfz27_1
     try clear hfz29_0
     try clear hfz29_1
     try clear p2
     as_aux_lemma =>
     obtain ⟨kq, x76_10, rfl, HA, HJ10, HO_9, BK430, HB⟩ := hcut
     cases kq with
     | zero => exact absurd HA.out (by simp [laws_FnMapWhole.j1])
     | succ kj10 =>
      have H := HA.out
      clear HA
      simp only [laws_FnMapWhole.j1] at H
      by_cases c35 : x76_10 = true
      ·subst c35
       rw [if_pos rfl] at H
       exact absurd ((Option.some.inj H).trans hr_.out) (by decide)
      ·replace c35 := Bool.eq_false_iff.mpr c35
       subst c35
       rw [iF] at H
       obtain ⟨⟨t443, t446, t449⟩, A360, H⟩ := Option.bind_eq_some_iff.mp H
       dsimp only at H
       have A36 := Aside0.mk A360
       clear A360
       obtain ⟨⟨t451, t454, t457⟩, A370, H⟩ := Option.bind_eq_some_iff.mp H
       dsimp only at H
       have A37 := Aside0.mk A370
       clear A370
       obtain ⟨⟨t459, t462, t465⟩, A380, H⟩ := Option.bind_eq_some_iff.mp H
       dsimp only at H
       have A38 := Aside0.mk A380
       clear A380
       by_cases c39 : t431 = true
       ·subst c39
        rw [if_pos rfl] at H
        obtain ⟨⟨t467, t470, t473⟩, A400, H⟩ := Option.bind_eq_some_iff.mp H
        dsimp only at H
        as_aux_lemma =>
        have A40 := Aside0.mk A400
        clear A400
        obtain ⟨⟨t475, t478, t481⟩, A410, H⟩ := Option.bind_eq_some_iff.mp H
        dsimp only at H
        have A41 := Aside0.mk A410
        clear A410
        obtain ⟨⟨t483, t486⟩, A420, H⟩ := Option.bind_eq_some_iff.mp H
        dsimp only at H
        have A42 := Aside0.mk A420
        clear A420
        obtain ⟨⟨t487, t490⟩, A430, H⟩ := Option.bind_eq_some_iff.mp H
        dsimp only at H
        have A43 := Aside0.mk A430
        clear A430
        have HC44 := Aside0.mk H
        clear H
        have hcz45_0 := zc0 BK430
        have hcz45_1 := zc1 BK430
        have hfz45_0 := blk_frozen BK430.out 0
        have hfz45_1 := blk_frozen BK430.out 1
        as_aux_lemma =>
        go_upto_region 18 with (first | ((with_reducible refine gate_callee (f := 12) rfl ?_); refine gL (some 79) Try.func12 #[.agg #[.slice A0 l0.length c0, .slice A1 l1.length c1]] ?_; (with_reducible refine (impl_MapDual.calls kj10 _ _ l0 _ _ l1 t443 t446 t449 _ ?side1 ?side2 ?side3 ?side4 A36.out).mono ?_); (case side1 => exact cB HR0 HB); (case side2 => exact HC0.out); (case side3 => exact cB HR1 HB); (case side4 => exact HC1.out); rintro e w46 ⟨v444, v447, rfl, ho0, ho1, hb⟩; refine ⟨_, rfl, ?_⟩; have HO445 := Aside0.mk (Kd.R_lower (Kd.R_new' ho0 (Kd.R_lt (rP HO_9))) (below_size (bP HB))); have HO448 := Aside0.mk (Kd.R_lower (Kd.R_new' ho1 (Kd.R_lt (rP HO_9))) (below_size (bP HB))); replace HO_9 := Aside0.mk (Kd.R_mono (Kd.R_told (Kd.R_told (Kd.R_old (rP HO_9) hb) (Kd.R_base ho0)) (Kd.R_base ho1)) (fun _ h_ => h_.1)); replace BK430 := kB BK430 hb; replace HB := bS HB hb; (try clear hb); (try clear hb2); (try clear hk); (try clear hi); (try clear ho0); (try clear ho1)) | ((with_reducible refine gate_dst (N := 12) rfl ?_); (try (refine gate_guard (by rfl) ?_; dsimp only)); refine bE 12 #[.slice none 0 0, .slice none 0 0] 24 ?_; intro gb450 hg w47 hbox hb; replace HO_9 := rB HO_9 hb; replace HO445 := rB HO445 hb; replace HO448 := rB HO448 hb; have BK450 := Aside0.mk (hbox); have GW450 := gS HB hg; have GE450 := gS HB hg; replace HB := bS HB hb; have NB430_450 := nL BK430 hg; have NB450_430 := nG BK430 hg; replace BK430 := kB BK430 hb; clear hb hbox hg; obtain ⟨Ao48, co48, eo48⟩ := Kd.R_slice HO445.out; subst eo48; have hnb49 := NB450_430.out; have hnc49 := NB430_450.out; have hcz50_0 := zc0 BK450; have hcz50_1 := zc1 BK450; have hfz50_0 := blk_frozen BK450.out 0; have hfz50_1 := blk_frozen BK450.out 1; obtain ⟨Ao51, co51, eo51⟩ := Kd.R_slice HO448.out; subst eo51; have hcz52_0 := zc0 BK430; have hcz52_1 := zc1 BK430; have hfz52_0 := blk_frozen BK430.out 0; have hfz52_1 := blk_frozen BK430.out 1) | ((with_reducible refine gate_callee (f := 13) rfl ?_); refine gL (some 84) Try.func13 #[.agg #[.slice A0 l0.length c0, .slice A1 l1.length c1]] ?_; (with_reducible refine (impl_MapMirror.calls kj10 _ _ l0 _ _ l1 t451 t454 t457 _ ?side1 ?side2 ?side3 ?side4 A37.out).mono ?_); (case side1 => exact Kd.C_below HR0.out (bP HB)); (case side2 => exact HC0.out); (case side3 => exact Kd.C_below HR1.out (bP HB)); (case side4 => exact HC1.out); rintro e w53 ⟨v452, v455, rfl, ho0, ho1, hb⟩; refine ⟨_, rfl, ?_⟩; have HO453 := Aside0.mk (Kd.R_lower (Kd.R_new' (Kd.R_new' (Kd.R_new' ho0 (Kd.R_lt (rT (Kd.R_mono (rF gb450 1 (rF gb450 0 (rY HO_9 BK450) (.slice Ao48 t443.length co48)) (.slice Ao51 t446.length co51)) (fun _ h_ => h_.1))))) (Kd.R_lt (rT (Kd.R_mono (rF gb450 1 (rF gb450 0 (rY HO445 BK450) (.slice Ao48 t443.length co48)) (.slice Ao51 t446.length co51)) (fun _ h_ => h_.1))))) (Kd.R_lt (rT (Kd.R_mono (rF gb450 1 (rF gb450 0 (rY HO448 BK450) (.slice Ao48 t443.length co48)) (.slice Ao51 t446.length co51)) (fun _ h_ => h_.1))))) (below_size (bP HB))); have HO456 := Aside0.mk (Kd.R_lower (Kd.R_new' (Kd.R_new' (Kd.R_new' ho1 (Kd.R_lt (rT (Kd.R_mono (rF gb450 1 (rF gb450 0 (rY HO_9 BK450) (.slice Ao48 t443.length co48)) (.slice Ao51 t446.length co51)) (fun _ h_ => h_.1))))) (Kd.R_lt (rT (Kd.R_mono (rF gb450 1 (rF gb450 0 (rY HO445 BK450) (.slice Ao48 t443.length co48)) (.slice Ao51 t446.length co51)) (fun _ h_ => h_.1))))) (Kd.R_lt (rT (Kd.R_mono (rF gb450 1 (rF gb450 0 (rY HO448 BK450) (.slice Ao48 t443.length co48)) (.slice Ao51 t446.length co51)) (fun _ h_ => h_.1))))) (below_size (bP HB))); replace HO_9 := Aside0.mk (Kd.R_mono (Kd.R_told (Kd.R_told (Kd.R_old (rT (Kd.R_mono (rF gb450 1 (rF gb450 0 (rY HO_9 BK450) (.slice Ao48 t443.length co48)) (.slice Ao51 t446.length co51)) (fun _ h_ => h_.1))) hb) (Kd.R_base ho0)) (Kd.R_base ho1)) (fun _ h_ => h_.1)); replace HO445 := Aside0.mk (Kd.R_mono (Kd.R_told (Kd.R_told (Kd.R_old (rT (Kd.R_mono (rF gb450 1 (rF gb450 0 (rY HO445 BK450) (.slice Ao48 t443.length co48)) (.slice Ao51 t446.length co51)) (fun _ h_ => h_.1))) hb) (Kd.R_base ho0)) (Kd.R_base ho1)) (fun _ h_ => h_.1)); replace HO448 := Aside0.mk (Kd.R_mono (Kd.R_told (Kd.R_told (Kd.R_old (rT (Kd.R_mono (rF gb450 1 (rF gb450 0 (rY HO448 BK450) (.slice Ao48 t443.length co48)) (.slice Ao51 t446.length co51)) (fun _ h_ => h_.1))) hb) (Kd.R_base ho0)) (Kd.R_base ho1)) (fun _ h_ => h_.1)); replace BK430 := kG BK430 hb; replace BK450 := Aside0.mk (blk_below (g := gb450) (o := .cells #[.slice Ao48 t443.length co48, .slice Ao51 t446.length co51] 24 (0, 0)) (by (with_reducible repeat (first | refine blk_drewN ?_ _ | refine blk_drew ?_ | refine blk_alloc ?_ _)); refine blk_put (cs := #[.slice Ao48 t443.length co48, .slice none 0 0]) ?_ 1 _ rfl; (with_reducible repeat (first | refine blk_drewN ?_ _ | refine blk_drew ?_ | refine blk_alloc ?_ _)); refine blk_put (cs := #[.slice none 0 0, .slice none 0 0]) ?_ 0 _ rfl; (with_reducible repeat (first | refine blk_drewN ?_ _ | refine blk_drew ?_ | refine blk_alloc ?_ _)); exact BK450.out) hb); replace HB := bS HB hb; (try clear hb); (try clear hb2); (try clear hk); (try clear hi); (try clear ho0); (try clear ho1)) | ((with_reducible refine gate_dst (N := 14) rfl ?_); (try (refine gate_guard (by rfl) ?_; dsimp only)); refine bE 14 #[.slice none 0 0, .slice none 0 0] 24 ?_; intro gb458 hg w54 hbox hb; replace HO_9 := rB HO_9 hb; replace HO445 := rB HO445 hb; replace HO448 := rB HO448 hb; replace HO453 := rB HO453 hb; replace HO456 := rB HO456 hb; have BK458 := Aside0.mk (hbox); have GW458 := gS HB hg; have GE458 := gS HB hg; replace HB := bS HB hb; have NB430_458 := nL BK430 hg; have NB458_430 := nG BK430 hg; replace BK430 := kB BK430 hb; have NB450_458 := nL BK450 hg; have NB458_450 := nG BK450 hg; replace BK450 := kB BK450 hb; clear hb hbox hg; obtain ⟨Ao55, co55, eo55⟩ := Kd.R_slice HO453.out; subst eo55; have hnb56 := NB458_430.out; have hnc56 := NB430_458.out; have hnb57 := NB458_450.out; have hnc57 := NB450_458.out; have hcz58_0 := zc0 BK458; have hcz58_1 := zc1 BK458; have hfz58_0 := blk_frozen BK458.out 0; have hfz58_1 := blk_frozen BK458.out 1; obtain ⟨Ao59, co59, eo59⟩ := Kd.R_slice HO456.out; subst eo59; have hcz60_0 := zc0 BK430; have hcz60_1 := zc1 BK430; have hfz60_0 := blk_frozen BK430.out 0; have hfz60_1 := blk_frozen BK430.out 1) | ((with_reducible refine gate_callee (f := 14) rfl ?_); refine gL (some 90) Try.func14 #[.agg #[.slice A0 l0.length c0, .slice A1 l1.length c1], .slice A2 l2.length c2] ?_; (with_reducible refine (impl_MapRename.calls kj10 _ _ l0 _ _ l1 _ _ l2 t459 t462 t465 _ ?side1 ?side2 ?side3 ?side4 ?side5 ?side6 A38.out).mono ?_); (case side1 => exact Kd.C_below HR0.out (bP HB)); (case side2 => exact HC0.out); (case side3 => exact Kd.C_below HR1.out (bP HB)); (case side4 => exact HC1.out); (case side5 => exact Kd.C_below HR2.out (bP HB)); (case side6 => exact HC2.out); rintro e w61 ⟨v460, v463, rfl, ho0, ho1, hb⟩; refine ⟨_, rfl, ?_⟩; have HO461 := Aside0.mk (Kd.R_lower (Kd.R_new' (Kd.R_new' (Kd.R_new' (Kd.R_new' (Kd.R_new' ho0 (Kd.R_lt (rT (Kd.R_mono (rF gb458 1 (rF gb458 0 (rY HO_9 BK458) (.slice Ao55 t451.length co55)) (.slice Ao59 t454.length co59)) (fun _ h_ => h_.1))))) (Kd.R_lt (rT (Kd.R_mono (rF gb458 1 (rF gb458 0 (rY HO445 BK458) (.slice Ao55 t451.length co55)) (.slice Ao59 t454.length co59)) (fun _ h_ => h_.1))))) (Kd.R_lt (rT (Kd.R_mono (rF gb458 1 (rF gb458 0 (rY HO448 BK458) (.slice Ao55 t451.length co55)) (.slice Ao59 t454.length co59)) (fun _ h_ => h_.1))))) (Kd.R_lt (rT (Kd.R_mono (rF gb458 1 (rF gb458 0 (rY HO453 BK458) (.slice Ao55 t451.length co55)) (.slice Ao59 t454.length co59)) (fun _ h_ => h_.1))))) (Kd.R_lt (rT (Kd.R_mono (rF gb458 1 (rF gb458 0 (rY HO456 BK458) (.slice Ao55 t451.length co55)) (.slice Ao59 t454.length co59)) (fun _ h_ => h_.1))))) (below_size (bP HB))); have HO464 := Aside0.mk (Kd.R_lower (Kd.R_new' (Kd.R_new' (Kd.R_new' (Kd.R_new' (Kd.R_new' ho1 (Kd.R_lt (rT (Kd.R_mono (rF gb458 1 (rF gb458 0 (rY HO_9 BK458) (.slice Ao55 t451.length co55)) (.slice Ao59 t454.length co59)) (fun _ h_ => h_.1))))) (Kd.R_lt (rT (Kd.R_mono (rF gb458 1 (rF gb458 0 (rY HO445 BK458) (.slice Ao55 t451.length co55)) (.slice Ao59 t454.length co59)) (fun _ h_ => h_.1))))) (Kd.R_lt (rT (Kd.R_mono (rF gb458 1 (rF gb458 0 (rY HO448 BK458) (.slice Ao55 t451.length co55)) (.slice Ao59 t454.length co59)) (fun _ h_ => h_.1))))) (Kd.R_lt (rT (Kd.R_mono (rF gb458 1 (rF gb458 0 (rY HO453 BK458) (.slice Ao55 t451.length co55)) (.slice Ao59 t454.length co59)) (fun _ h_ => h_.1))))) (Kd.R_lt (rT (Kd.R_mono (rF gb458 1 (rF gb458 0 (rY HO456 BK458) (.slice Ao55 t451.length co55)) (.slice Ao59 t454.length co59)) (fun _ h_ => h_.1))))) (below_size (bP HB))); replace HO_9 := Aside0.mk (Kd.R_mono (Kd.R_told (Kd.R_told (Kd.R_old (rT (Kd.R_mono (rF gb458 1 (rF gb458 0 (rY HO_9 BK458) (.slice Ao55 t451.length co55)) (.slice Ao59 t454.length co59)) (fun _ h_ => h_.1))) hb) (Kd.R_base ho0)) (Kd.R_base ho1)) (fun _ h_ => h_.1)); replace HO445 := Aside0.mk (Kd.R_mono (Kd.R_told (Kd.R_told (Kd.R_old (rT (Kd.R_mono (rF gb458 1 (rF gb458 0 (rY HO445 BK458) (.slice Ao55 t451.length co55)) (.slice Ao59 t454.length co59)) (fun _ h_ => h_.1))) hb) (Kd.R_base ho0)) (Kd.R_base ho1)) (fun _ h_ => h_.1)); replace HO448 := Aside0.mk (Kd.R_mono (Kd.R_told (Kd.R_told (Kd.R_old (rT (Kd.R_mono (rF gb458 1 (rF gb458 0 (rY HO448 BK458) (.slice Ao55 t451.length co55)) (.slice Ao59 t454.length co59)) (fun _ h_ => h_.1))) hb) (Kd.R_base ho0)) (Kd.R_base ho1)) (fun _ h_ => h_.1)); replace HO453 := Aside0.mk (Kd.R_mono (Kd.R_told (Kd.R_told (Kd.R_old (rT (Kd.R_mono (rF gb458 1 (rF gb458 0 (rY HO453 BK458) (.slice Ao55 t451.length co55)) (.slice Ao59 t454.length co59)) (fun _ h_ => h_.1))) hb) (Kd.R_base ho0)) (Kd.R_base ho1)) (fun _ h_ => h_.1)); replace HO456 := Aside0.mk (Kd.R_mono (Kd.R_told (Kd.R_told (Kd.R_old (rT (Kd.R_mono (rF gb458 1 (rF gb458 0 (rY HO456 BK458) (.slice Ao55 t451.length co55)) (.slice Ao59 t454.length co59)) (fun _ h_ => h_.1))) hb) (Kd.R_base ho0)) (Kd.R_base ho1)) (fun _ h_ => h_.1)); replace BK430 := kG BK430 hb; replace BK450 := kG BK450 hb; replace BK458 := Aside0.mk (blk_below (g := gb458) (o := .cells #[.slice Ao55 t451.length co55, .slice Ao59 t454.length co59] 24 (0, 0)) (by (with_reducible repeat (first | refine blk_drewN ?_ _ | refine blk_drew ?_ | refine blk_alloc ?_ _)); refine blk_put (cs := #[.slice Ao55 t451.length co55, .slice none 0 0]) ?_ 1 _ rfl; (with_reducible repeat (first | refine blk_drewN ?_ _ | refine blk_drew ?_ | refine blk_alloc ?_ _)); refine blk_put (cs := #[.slice none 0 0, .slice none 0 0]) ?_ 0 _ rfl; (with_reducible repeat (first | refine blk_drewN ?_ _ | refine blk_drew ?_ | refine blk_alloc ?_ _)); exact BK458.out) hb); replace HB := bS HB hb; (try clear hb); (try clear hb2); (try clear hk); (try clear hi); (try clear ho0); (try clear ho1)) | ((with_reducible refine gate_dst (N := 16) rfl ?_); (try (refine gate_guard (by rfl) ?_; dsimp only)); refine bE 16 #[.slice none 0 0, .slice none 0 0] 24 ?_; intro gb466 hg w62 hbox hb; replace HO_9 := rB HO_9 hb; replace HO445 := rB HO445 hb; replace HO448 := rB HO448 hb; replace HO453 := rB HO453 hb; replace HO456 := rB HO456 hb; replace HO461 := rB HO461 hb; replace HO464 := rB HO464 hb; have BK466 := Aside0.mk (hbox); have GW466 := gS HB hg; have GE466 := gS HB hg; replace HB := bS HB hb; have NB430_466 := nL BK430 hg; have NB466_430 := nG BK430 hg; replace BK430 := kB BK430 hb; have NB450_466 := nL BK450 hg; have NB466_450 := nG BK450 hg; replace BK450 := kB BK450 hb; have NB458_466 := nL BK458 hg; have NB466_458 := nG BK458 hg; replace BK458 := kB BK458 hb; clear hb hbox hg; obtain ⟨Ao63, co63, eo63⟩ := Kd.R_slice HO461.out; subst eo63; have hnb64 := NB466_430.out; have hnc64 := NB430_466.out; have hnb65 := NB466_450.out; have hnc65 := NB450_466.out; have hnb66 := NB466_458.out; have hnc66 := NB458_466.out; have hcz67_0 := zc0 BK466; have hcz67_1 := zc1 BK466; have hfz67_0 := blk_frozen BK466.out 0; have hfz67_1 := blk_frozen BK466.out 1; obtain ⟨Ao68, co68, eo68⟩ := Kd.R_slice HO464.out; subst eo68; have hcz69_0 := zc0 BK450; have hcz69_1 := zc1 BK450; have hfz69_0 := blk_frozen BK450.out 0; have hfz69_1 := blk_frozen BK450.out 1) | ((with_reducible refine gate_callee (f := 12) rfl ?_); refine gL (some 111) Try.func12 #[.agg #[.slice Ao48 t443.length co48, .slice Ao51 t446.length co51]] ?_; (with_reducible refine (impl_MapDual.calls kj10 _ _ t443 _ _ t446 t467 t470 t473 _ ?side1 ?side2 ?side3 ?side4 A40.out).mono ?_); (case side1 => refine (Kd.R_reads' (e := 3) (base := w.heap.size) (ok := fun k_ => (((((oN k_ Ao51 t446 co51 ∧ some k_ ≠ (v433 : Value).ownBlock) ∧ oN k_ Ao55 t451 co55) ∧ oN k_ Ao59 t454 co59) ∧ oN k_ Ao63 t459 co63) ∧ oN k_ Ao68 t462 co68)) (n := t443.length) (c := co48) ?_).2.2; exact (rT (Kd.R_mono (rF gb466 1 (rF gb466 0 (rY HO445 BK466) (.slice Ao63 t459.length co63)) (.slice Ao68 t462.length co68)) (fun _ h_ => h_.1)))); (case side2 => exact (Kd.R_reads' HO445.out).2.1); (case side3 => refine (Kd.R_reads' (e := 3) (base := w.heap.size) (ok := fun k_ => (((((oN k_ Ao48 t443 co48 ∧ some k_ ≠ (v433 : Value).ownBlock) ∧ oN k_ Ao55 t451 co55) ∧ oN k_ Ao59 t454 co59) ∧ oN k_ Ao63 t459 co63) ∧ oN k_ Ao68 t462 co68)) (n := t446.length) (c := co51) ?_).2.2; exact (rT (Kd.R_mono (rF gb466 1 (rF gb466 0 (rY HO448 BK466) (.slice Ao63 t459.length co63)) (.slice Ao68 t462.length co68)) (fun _ h_ => h_.1)))); (case side4 => exact (Kd.R_reads' HO448.out).2.1); rintro e w70 ⟨v468, v471, rfl, ho0, ho1, hb⟩; refine ⟨_, rfl, ?_⟩; have HO469 := Aside0.mk (Kd.R_lower (Kd.R_new' (Kd.R_new' (Kd.R_new' (Kd.R_new' (Kd.R_new' (Kd.R_new' (Kd.R_new' ho0 (Kd.R_lt (rT (Kd.R_mono (rF gb466 1 (rF gb466 0 (rY HO_9 BK466) (.slice Ao63 t459.length co63)) (.slice Ao68 t462.length co68)) (fun _ h_ => h_.1))))) (Kd.R_lt (rT (Kd.R_mono (rF gb466 1 (rF gb466 0 (rY HO445 BK466) (.slice Ao63 t459.length co63)) (.slice Ao68 t462.length co68)) (fun _ h_ => h_.1))))) (Kd.R_lt (rT (Kd.R_mono (rF gb466 1 (rF gb466 0 (rY HO448 BK466) (.slice Ao63 t459.length co63)) (.slice Ao68 t462.length co68)) (fun _ h_ => h_.1))))) (Kd.R_lt (rT (Kd.R_mono (rF gb466 1 (rF gb466 0 (rY HO453 BK466) (.slice Ao63 t459.length co63)) (.slice Ao68 t462.length co68)) (fun _ h_ => h_.1))))) (Kd.R_lt (rT (Kd.R_mono (rF gb466 1 (rF gb466 0 (rY HO456 BK466) (.slice Ao63 t459.length co63)) (.slice Ao68 t462.length co68)) (fun _ h_ => h_.1))))) (Kd.R_lt (rT (Kd.R_mono (rF gb466 1 (rF gb466 0 (rY HO461 BK466) (.slice Ao63 t459.length co63)) (.slice Ao68 t462.length co68)) (fun _ h_ => h_.1))))) (Kd.R_lt (rT (Kd.R_mono (rF gb466 1 (rF gb466 0 (rY HO464 BK466) (.slice Ao63 t459.length co63)) (.slice Ao68 t462.length co68)) (fun _ h_ => h_.1))))) (below_size (bP HB))); have HO472 := Aside0.mk (Kd.R_lower (Kd.R_new' (Kd.R_new' (Kd.R_new' (Kd.R_new' (Kd.R_new' (Kd.R_new' (Kd.R_new' ho1 (Kd.R_lt (rT (Kd.R_mono (rF gb466 1 (rF gb466 0 (rY HO_9 BK466) (.slice Ao63 t459.length co63)) (.slice Ao68 t462.length co68)) (fun _ h_ => h_.1))))) (Kd.R_lt (rT (Kd.R_mono (rF gb466 1 (rF gb466 0 (rY HO445 BK466) (.slice Ao63 t459.length co63)) (.slice Ao68 t462.length co68)) (fun _ h_ => h_.1))))) (Kd.R_lt (rT (Kd.R_mono (rF gb466 1 (rF gb466 0 (rY HO448 BK466) (.slice Ao63 t459.length co63)) (.slice Ao68 t462.length co68)) (fun _ h_ => h_.1))))) (Kd.R_lt (rT (Kd.R_mono (rF gb466 1 (rF gb466 0 (rY HO453 BK466) (.slice Ao63 t459.length co63)) (.slice Ao68 t462.length co68)) (fun _ h_ => h_.1))))) (Kd.R_lt (rT (Kd.R_mono (rF gb466 1 (rF gb466 0 (rY HO456 BK466) (.slice Ao63 t459.length co63)) (.slice Ao68 t462.length co68)) (fun _ h_ => h_.1))))) (Kd.R_lt (rT (Kd.R_mono (rF gb466 1 (rF gb466 0 (rY HO461 BK466) (.slice Ao63 t459.length co63)) (.slice Ao68 t462.length co68)) (fun _ h_ => h_.1))))) (Kd.R_lt (rT (Kd.R_mono (rF gb466 1 (rF gb466 0 (rY HO464 BK466) (.slice Ao63 t459.length co63)) (.slice Ao68 t462.length co68)) (fun _ h_ => h_.1))))) (below_size (bP HB))); replace HO_9 := Aside0.mk (Kd.R_mono (Kd.R_told (Kd.R_told (Kd.R_old (rT (Kd.R_mono (rF gb466 1 (rF gb466 0 (rY HO_9 BK466) (.slice Ao63 t459.length co63)) (.slice Ao68 t462.length co68)) (fun _ h_ => h_.1))) hb) (Kd.R_base ho0)) (Kd.R_base ho1)) (fun _ h_ => h_.1)); replace HO445 := Aside0.mk (Kd.R_mono (Kd.R_told (Kd.R_told (Kd.R_old (rT (Kd.R_mono (rF gb466 1 (rF gb466 0 (rY HO445 BK466) (.slice Ao63 t459.length co63)) (.slice Ao68 t462.length co68)) (fun _ h_ => h_.1))) hb) (Kd.R_base ho0)) (Kd.R_base ho1)) (fun _ h_ => h_.1)); replace HO448 := Aside0.mk (Kd.R_mono (Kd.R_told (Kd.R_told (Kd.R_old (rT (Kd.R_mono (rF gb466 1 (rF gb466 0 (rY HO448 BK466) (.slice Ao63 t459.length co63)) (.slice Ao68 t462.length co68)) (fun _ h_ => h_.1))) hb) (Kd.R_base ho0)) (Kd.R_base ho1)) (fun _ h_ => h_.1)); replace HO453 := Aside0.mk (Kd.R_mono (Kd.R_told (Kd.R_told (Kd.R_old (rT (Kd.R_mono (rF gb466 1 (rF gb466 0 (rY HO453 BK466) (.slice Ao63 t459.length co63)) (.slice Ao68 t462.length co68)) (fun _ h_ => h_.1))) hb) (Kd.R_base ho0)) (Kd.R_base ho1)) (fun _ h_ => h_.1)); replace HO456 := Aside0.mk (Kd.R_mono (Kd.R_told (Kd.R_told (Kd.R_old (rT (Kd.R_mono (rF gb466 1 (rF gb466 0 (rY HO456 BK466) (.slice Ao63 t459.length co63)) (.slice Ao68 t462.length co68)) (fun _ h_ => h_.1))) hb) (Kd.R_base ho0)) (Kd.R_base ho1)) (fun _ h_ => h_.1)); replace HO461 := Aside0.mk (Kd.R_mono (Kd.R_told (Kd.R_told (Kd.R_old (rT (Kd.R_mono (rF gb466 1 (rF gb466 0 (rY HO461 BK466) (.slice Ao63 t459.length co63)) (.slice Ao68 t462.length co68)) (fun _ h_ => h_.1))) hb) (Kd.R_base ho0)) (Kd.R_base ho1)) (fun _ h_ => h_.1)); replace HO464 := Aside0.mk (Kd.R_mono (Kd.R_told (Kd.R_told (Kd.R_old (rT (Kd.R_mono (rF gb466 1 (rF gb466 0 (rY HO464 BK466) (.slice Ao63 t459.length co63)) (.slice Ao68 t462.length co68)) (fun _ h_ => h_.1))) hb) (Kd.R_base ho0)) (Kd.R_base ho1)) (fun _ h_ => h_.1)); replace BK430 := kG BK430 hb; replace BK450 := kG BK450 hb; replace BK458 := kG BK458 hb; replace BK466 := Aside0.mk (blk_below (g := gb466) (o := .cells #[.slice Ao63 t459.length co63, .slice Ao68 t462.length co68] 24 (0, 0)) (by (with_reducible repeat (first | refine blk_drewN ?_ _ | refine blk_drew ?_ | refine blk_alloc ?_ _)); refine blk_put (cs := #[.slice Ao63 t459.length co63, .slice none 0 0]) ?_ 1 _ rfl; (with_reducible repeat (first | refine blk_drewN ?_ _ | refine blk_drew ?_ | refine blk_alloc ?_ _)); refine blk_put (cs := #[.slice none 0 0, .slice none 0 0]) ?_ 0 _ rfl; (with_reducible repeat (first | refine blk_drewN ?_ _ | refine blk_drew ?_ | refine blk_alloc ?_ _)); exact BK466.out) hb); replace HB := bS HB hb; (try clear hb); (try clear hb2); (try clear hk); (try clear hi); (try clear ho0); (try clear ho1)) | ((with_reducible refine gate_dst (N := 18) rfl ?_); (try (refine gate_guard (by rfl) ?_; dsimp only)); refine bE 18 #[.slice none 0 0, .slice none 0 0] 24 ?_; intro gb474 hg w71 hbox hb; replace HO_9 := rB HO_9 hb; replace HO445 := rB HO445 hb; replace HO448 := rB HO448 hb; replace HO453 := rB HO453 hb; replace HO456 := rB HO456 hb; replace HO461 := rB HO461 hb; replace HO464 := rB HO464 hb; replace HO469 := rB HO469 hb; replace HO472 := rB HO472 hb; have BK474 := Aside0.mk (hbox); have GW474 := gS HB hg; have GE474 := gS HB hg; replace HB := bS HB hb; have NB430_474 := nL BK430 hg; have NB474_430 := nG BK430 hg; replace BK430 := kB BK430 hb; have NB450_474 := nL BK450 hg; have NB474_450 := nG BK450 hg; replace BK450 := kB BK450 hb; have NB458_474 := nL BK458 hg; have NB474_458 := nG BK458 hg; replace BK458 := kB BK458 hb; have NB466_474 := nL BK466 hg; have NB474_466 := nG BK466 hg; replace BK466 := kB BK466 hb; clear hb hbox hg; obtain ⟨Ao72, co72, eo72⟩ := Kd.R_slice HO469.out; subst eo72; have hnb73 := NB474_430.out; have hnc73 := NB430_474.out; have hnb74 := NB474_450.out; have hnc74 := NB450_474.out; have hnb75 := NB474_458.out; have hnc75 := NB458_474.out; have hnb76 := NB474_466.out; have hnc76 := NB466_474.out; have hcz77_0 := zc0 BK474; have hcz77_1 := zc1 BK474; have hfz77_0 := blk_frozen BK474.out 0; have hfz77_1 := blk_frozen BK474.out 1; obtain ⟨Ao78, co78, eo78⟩ := Kd.R_slice HO472.out; subst eo78; have hcz79_0 := zc0 BK458; have hcz79_1 := zc1 BK458; have hfz79_0 := blk_frozen BK458.out 0; have hfz79_1 := blk_frozen BK458.out 1) | ((with_reducible refine gate_callee (f := 13) rfl ?_); refine gL (some 116) Try.func13 #[.agg #[.slice Ao55 t451.length co55, .slice Ao59 t454.length co59]] ?_; (with_reducible refine (impl_MapMirror.calls kj10 _ _ t451 _ _ t454 t475 t478 t481 _ ?side1 ?side2 ?side3 ?side4 A41.out).mono ?_); (case side1 => refine (Kd.R_reads' (e := 3) (base := w.heap.size) (ok := fun k_ => (((((((oN k_ Ao59 t454 co59 ∧ some k_ ≠ (v433 : Value).ownBlock) ∧ oN k_ Ao48 t443 co48) ∧ oN k_ Ao51 t446 co51) ∧ oN k_ Ao63 t459 co63) ∧ oN k_ Ao68 t462 co68) ∧ oN k_ Ao72 t467 co72) ∧ oN k_ Ao78 t470 co78)) (n := t451.length) (c := co55) ?_).2.2; exact (rT (Kd.R_mono (rF gb474 1 (rF gb474 0 (rY HO453 BK474) (.slice Ao72 t467.length co72)) (.slice Ao78 t470.length co78)) (fun _ h_ => h_.1)))); (case side2 => exact (Kd.R_reads' HO453.out).2.1); (case side3 => refine (Kd.R_reads' (e := 3) (base := w.heap.size) (ok := fun k_ => (((((((oN k_ Ao55 t451 co55 ∧ some k_ ≠ (v433 : Value).ownBlock) ∧ oN k_ Ao48 t443 co48) ∧ oN k_ Ao51 t446 co51) ∧ oN k_ Ao63 t459 co63) ∧ oN k_ Ao68 t462 co68) ∧ oN k_ Ao72 t467 co72) ∧ oN k_ Ao78 t470 co78)) (n := t454.length) (c := co59) ?_).2.2; exact (rT (Kd.R_mono (rF gb474 1 (rF gb474 0 (rY HO456 BK474) (.slice Ao72 t467.length co72)) (.slice Ao78 t470.length co78)) (fun _ h_ => h_.1)))); (case side4 => exact (Kd.R_reads' HO456.out).2.1); rintro e w80 ⟨v476, v479, rfl, ho0, ho1, hb⟩; refine ⟨_, rfl, ?_⟩; have HO477 := Aside0.mk (Kd.R_lower (Kd.R_new' (Kd.R_new' (Kd.R_new' (Kd.R_new' (Kd.R_new' (Kd.R_new' (Kd.R_new' (Kd.R_new' (Kd.R_new' ho0 (Kd.R_lt (rT (Kd.R_mono (rF gb474 1 (rF gb474 0 (rY HO_9 BK474) (.slice Ao72 t467.length co72)) (.slice Ao78 t470.length co78)) (fun _ h_ => h_.1))))) (Kd.R_lt (rT (Kd.R_mono (rF gb474 1 (rF gb474 0 (rY HO445 BK474) (.slice Ao72 t467.length co72)) (.slice Ao78 t470.length co78)) (fun _ h_ => h_.1))))) (Kd.R_lt (rT (Kd.R_mono (rF gb474 1 (rF gb474 0 (rY HO448 BK474) (.slice Ao72 t467.length co72)) (.slice Ao78 t470.length co78)) (fun _ h_ => h_.1))))) (Kd.R_lt (rT (Kd.R_mono (rF gb474 1 (rF gb474 0 (rY HO453 BK474) (.slice Ao72 t467.length co72)) (.slice Ao78 t470.length co78)) (fun _ h_ => h_.1))))) (Kd.R_lt (rT (Kd.R_mono (rF gb474 1 (rF gb474 0 (rY HO456 BK474) (.slice Ao72 t467.length co72)) (.slice Ao78 t470.length co78)) (fun _ h_ => h_.1))))) (Kd.R_lt (rT (Kd.R_mono (rF gb474 1 (rF gb474 0 (rY HO461 BK474) (.slice Ao72 t467.length co72)) (.slice Ao78 t470.length co78)) (fun _ h_ => h_.1))))) (Kd.R_lt (rT (Kd.R_mono (rF gb474 1 (rF gb474 0 (rY HO464 BK474) (.slice Ao72 t467.length co72)) (.slice Ao78 t470.length co78)) (fun _ h_ => h_.1))))) (Kd.R_lt (rT (Kd.R_mono (rF gb474 1 (rF gb474 0 (rY HO469 BK474) (.slice Ao72 t467.length co72)) (.slice Ao78 t470.length co78)) (fun _ h_ => h_.1))))) (Kd.R_lt (rT (Kd.R_mono (rF gb474 1 (rF gb474 0 (rY HO472 BK474) (.slice Ao72 t467.length co72)) (.slice Ao78 t470.length co78)) (fun _ h_ => h_.1))))) (below_size (bP HB))); have HO480 := Aside0.mk (Kd.R_lower (Kd.R_new' (Kd.R_new' (Kd.R_new' (Kd.R_new' (Kd.R_new' (Kd.R_new' (Kd.R_new' (Kd.R_new' (Kd.R_new' ho1 (Kd.R_lt (rT (Kd.R_mono (rF gb474 1 (rF gb474 0 (rY HO_9 BK474) (.slice Ao72 t467.length co72)) (.slice Ao78 t470.length co78)) (fun _ h_ => h_.1))))) (Kd.R_lt (rT (Kd.R_mono (rF gb474 1 (rF gb474 0 (rY HO445 BK474) (.slice Ao72 t467.length co72)) (.slice Ao78 t470.length co78)) (fun _ h_ => h_.1))))) (Kd.R_lt (rT (Kd.R_mono (rF gb474 1 (rF gb474 0 (rY HO448 BK474) (.slice Ao72 t467.length co72)) (.slice Ao78 t470.length co78)) (fun _ h_ => h_.1))))) (Kd.R_lt (rT (Kd.R_mono (rF gb474 1 (rF gb474 0 (rY HO453 BK474) (.slice Ao72 t467.length co72)) (.slice Ao78 t470.length co78)) (fun _ h_ => h_.1))))) (Kd.R_lt (rT (Kd.R_mono (rF gb474 1 (rF gb474 0 (rY HO456 BK474) (.slice Ao72 t467.length co72)) (.slice Ao78 t470.length co78)) (fun _ h_ => h_.1))))) (Kd.R_lt (rT (Kd.R_mono (rF gb474 1 (rF gb474 0 (rY HO461 BK474) (.slice Ao72 t467.length co72)) (.slice Ao78 t470.length co78)) (fun _ h_ => h_.1))))) (Kd.R_lt (rT (Kd.R_mono (rF gb474 1 (rF gb474 0 (rY HO464 BK474) (.slice Ao72 t467.length co72)) (.slice Ao78 t470.length co78)) (fun _ h_ => h_.1))))) (Kd.R_lt (rT (Kd.R_mono (rF gb474 1 (rF gb474 0 (rY HO469 BK474) (.slice Ao72 t467.length co72)) (.slice Ao78 t470.length co78)) (fun _ h_ => h_.1))))) (Kd.R_lt (rT (Kd.R_mono (rF gb474 1 (rF gb474 0 (rY HO472 BK474) (.slice Ao72 t467.length co72)) (.slice Ao78 t470.length co78)) (fun _ h_ => h_.1))))) (below_size (bP HB))); replace HO_9 := Aside0.mk (Kd.R_mono (Kd.R_told (Kd.R_told (Kd.R_old (rT (Kd.R_mono (rF gb474 1 (rF gb474 0 (rY HO_9 BK474) (.slice Ao72 t467.length co72)) (.slice Ao78 t470.length co78)) (fun _ h_ => h_.1))) hb) (Kd.R_base ho0)) (Kd.R_base ho1)) (fun _ h_ => h_.1)); replace HO445 := Aside0.mk (Kd.R_mono (Kd.R_told (Kd.R_told (Kd.R_old (rT (Kd.R_mono (rF gb474 1 (rF gb474 0 (rY HO445 BK474) (.slice Ao72 t467.length co72)) (.slice Ao78 t470.length co78)) (fun _ h_ => h_.1))) hb) (Kd.R_base ho0)) (Kd.R_base ho1)) (fun _ h_ => h_.1)); replace HO448 := Aside0.mk (Kd.R_mono (Kd.R_told (Kd.R_told (Kd.R_old (rT (Kd.R_mono (rF gb474 1 (rF gb474 0 (rY HO448 BK474) (.slice Ao72 t467.length co72)) (.slice Ao78 t470.length co78)) (fun _ h_ => h_.1))) hb) (Kd.R_base ho0)) (Kd.R_base ho1)) (fun _ h_ => h_.1)); replace HO453 := Aside0.mk (Kd.R_mono (Kd.R_told (Kd.R_told (Kd.R_old (rT (Kd.R_mono (rF gb474 1 (rF gb474 0 (rY HO453 BK474) (.slice Ao72 t467.length co72)) (.slice Ao78 t470.length co78)) (fun _ h_ => h_.1))) hb) (Kd.R_base ho0)) (Kd.R_base ho1)) (fun _ h_ => h_.1)); replace HO456 := Aside0.mk (Kd.R_mono (Kd.R_told (Kd.R_told (Kd.R_old (rT (Kd.R_mono (rF gb474 1 (rF gb474 0 (rY HO456 BK474) (.slice Ao72 t467.length co72)) (.slice Ao78 t470.length co78)) (fun _ h_ => h_.1))) hb) (Kd.R_base ho0)) (Kd.R_base ho1)) (fun _ h_ => h_.1)); replace HO461 := Aside0.mk (Kd.R_mono (Kd.R_told (Kd.R_told (Kd.R_old (rT (Kd.R_mono (rF gb474 1 (rF gb474 0 (rY HO461 BK474) (.slice Ao72 t467.length co72)) (.slice Ao78 t470.length co78)) (fun _ h_ => h_.1))) hb) (Kd.R_base ho0)) (Kd.R_base ho1)) (fun _ h_ => h_.1)); replace HO464 := Aside0.mk (Kd.R_mono (Kd.R_told (Kd.R_told (Kd.R_old (rT (Kd.R_mono (rF gb474 1 (rF gb474 0 (rY HO464 BK474) (.slice Ao72 t467.length co72)) (.slice Ao78 t470.length co78)) (fun _ h_ => h_.1))) hb) (Kd.R_base ho0)) (Kd.R_base ho1)) (fun _ h_ => h_.1)); replace HO469 := Aside0.mk (Kd.R_mono (Kd.R_told (Kd.R_told (Kd.R_old (rT (Kd.R_mono (rF gb474 1 (rF gb474 0 (rY HO469 BK474) (.slice Ao72 t467.length co72)) (.slice Ao78 t470.length co78)) (fun _ h_ => h_.1))) hb) (Kd.R_base ho0)) (Kd.R_base ho1)) (fun _ h_ => h_.1)); replace HO472 := Aside0.mk (Kd.R_mono (Kd.R_told (Kd.R_told (Kd.R_old (rT (Kd.R_mono (rF gb474 1 (rF gb474 0 (rY HO472 BK474) (.slice Ao72 t467.length co72)) (.slice Ao78 t470.length co78)) (fun _ h_ => h_.1))) hb) (Kd.R_base ho0)) (Kd.R_base ho1)) (fun _ h_ => h_.1)); replace BK430 := kG BK430 hb; replace BK450 := kG BK450 hb; replace BK458 := kG BK458 hb; replace BK466 := kG BK466 hb; replace BK474 := Aside0.mk (blk_below (g := gb474) (o := .cells #[.slice Ao72 t467.length co72, .slice Ao78 t470.length co78] 24 (0, 0)) (by (with_reducible repeat (first | refine blk_drewN ?_ _ | refine blk_drew ?_ | refine blk_alloc ?_ _)); refine blk_put (cs := #[.slice Ao72 t467.length co72, .slice none 0 0]) ?_ 1 _ rfl; (with_reducible repeat (first | refine blk_drewN ?_ _ | refine blk_drew ?_ | refine blk_alloc ?_ _)); refine blk_put (cs := #[.slice none 0 0, .slice none 0 0]) ?_ 0 _ rfl; (with_reducible repeat (first | refine blk_drewN ?_ _ | refine blk_drew ?_ | refine blk_alloc ?_ _)); exact BK474.out) hb); replace HB := bS HB hb; (try clear hb); (try clear hb2); (try clear hk); (try clear hi); (try clear ho0); (try clear ho1)) | ((with_reducible refine gate_dst (N := 20) rfl ?_); (try (refine gate_guard (by rfl) ?_; dsimp only)); refine bE 20 #[.slice none 0 0, .slice none 0 0] 24 ?_; intro gb482 hg w81 hbox hb; replace HO_9 := rB HO_9 hb; replace HO445 := rB HO445 hb; replace HO448 := rB HO448 hb; replace HO453 := rB HO453 hb; replace HO456 := rB HO456 hb; replace HO461 := rB HO461 hb; replace HO464 := rB HO464 hb; replace HO469 := rB HO469 hb; replace HO472 := rB HO472 hb; replace HO477 := rB HO477 hb; replace HO480 := rB HO480 hb; have BK482 := Aside0.mk (hbox); have GW482 := gS HB hg; have GE482 := gS HB hg; replace HB := bS HB hb; have NB430_482 := nL BK430 hg; have NB482_430 := nG BK430 hg; replace BK430 := kB BK430 hb; have NB450_482 := nL BK450 hg; have NB482_450 := nG BK450 hg; replace BK450 := kB BK450 hb; have NB458_482 := nL BK458 hg; have NB482_458 := nG BK458 hg; replace BK458 := kB BK458 hb; have NB466_482 := nL BK466 hg; have NB482_466 := nG BK466 hg; replace BK466 := kB BK466 hb; have NB474_482 := nL BK474 hg; have NB482_474 := nG BK474 hg; replace BK474 := kB BK474 hb; clear hb hbox hg; obtain ⟨Ao82, co82, eo82⟩ := Kd.R_slice HO477.out; subst eo82; have hnb83 := NB482_430.out; have hnc83 := NB430_482.out; have hnb84 := NB482_450.out; have hnc84 := NB450_482.out; have hnb85 := NB482_458.out; have hnc85 := NB458_482.out; have hnb86 := NB482_466.out; have hnc86 := NB466_482.out; have hnb87 := NB482_474.out; have hnc87 := NB474_482.out; have hcz88_0 := zc0 BK482; have hcz88_1 := zc1 BK482; have hfz88_0 := blk_frozen BK482.out 0; have hfz88_1 := blk_frozen BK482.out 1; obtain ⟨Ao89, co89, eo89⟩ := Kd.R_slice HO480.out; subst eo89; have hcz90_0 := zc0 BK450; have hcz90_1 := zc1 BK450; have hfz90_0 := blk_frozen BK450.out 0; have hfz90_1 := blk_frozen BK450.out 1) | ((with_reducible refine gate_callee (f := 7) rfl ?_); refine gL (some 121) Try.func7 #[.agg #[.slice Ao48 t443.length co48, .slice Ao51 t446.length co51]] ?_; (with_reducible refine (impl_MapCounts.calls kj10 _ _ t443 _ _ t446 t483 t486 _ ?side1 ?side2 ?side3 ?side4 A42.out).mono ?_); (case side1 => refine (Kd.R_reads' (e := 3) (base := w.heap.size) (ok := fun k_ => (((((((((oN k_ Ao51 t446 co51 ∧ some k_ ≠ (v433 : Value).ownBlock) ∧ oN k_ Ao55 t451 co55) ∧ oN k_ Ao59 t454 co59) ∧ oN k_ Ao63 t459 co63) ∧ oN k_ Ao68 t462 co68) ∧ oN k_ Ao72 t467 co72) ∧ oN k_ Ao78 t470 co78) ∧ oN k_ Ao82 t475 co82) ∧ oN k_ Ao89 t478 co89)) (n := t443.length) (c := co48) ?_).2.2; exact (rT (Kd.R_mono (rF gb482 1 (rF gb482 0 (rY HO445 BK482) (.slice Ao82 t475.length co82)) (.slice Ao89 t478.length co89)) (fun _ h_ => h_.1)))); (case side2 => exact (Kd.R_reads' HO445.out).2.1); (case side3 => refine (Kd.R_reads' (e := 3) (base := w.heap.size) (ok := fun k_ => (((((((((oN k_ Ao48 t443 co48 ∧ some k_ ≠ (v433 : Value).ownBlock) ∧ oN k_ Ao55 t451 co55) ∧ oN k_ Ao59 t454 co59) ∧ oN k_ Ao63 t459 co63) ∧ oN k_ Ao68 t462 co68) ∧ oN k_ Ao72 t467 co72) ∧ oN k_ Ao78 t470 co78) ∧ oN k_ Ao82 t475 co82) ∧ oN k_ Ao89 t478 co89)) (n := t446.length) (c := co51) ?_).2.2; exact (rT (Kd.R_mono (rF gb482 1 (rF gb482 0 (rY HO448 BK482) (.slice Ao82 t475.length co82)) (.slice Ao89 t478.length co89)) (fun _ h_ => h_.1)))); (case side4 => exact (Kd.R_reads' HO448.out).2.1); rintro e w91 ⟨v484, rfl, ho0, hb⟩; refine ⟨_, rfl, ?_⟩; have HO485 := Aside0.mk (Kd.R_lower (Kd.R_new' (Kd.R_new' (Kd.R_new' (Kd.R_new' (Kd.R_new' (Kd.R_new' (Kd.R_new' (Kd.R_new' (Kd.R_new' (Kd.R_new' (Kd.R_new' ho0 (Kd.R_lt (rT (Kd.R_mono (rF gb482 1 (rF gb482 0 (rY HO_9 BK482) (.slice Ao82 t475.length co82)) (.slice Ao89 t478.length co89)) (fun _ h_ => h_.1))))) (Kd.R_lt (rT (Kd.R_mono (rF gb482 1 (rF gb482 0 (rY HO445 BK482) (.slice Ao82 t475.length co82)) (.slice Ao89 t478.length co89)) (fun _ h_ => h_.1))))) (Kd.R_lt (rT (Kd.R_mono (rF gb482 1 (rF gb482 0 (rY HO448 BK482) (.slice Ao82 t475.length co82)) (.slice Ao89 t478.length co89)) (fun _ h_ => h_.1))))) (Kd.R_lt (rT (Kd.R_mono (rF gb482 1 (rF gb482 0 (rY HO453 BK482) (.slice Ao82 t475.length co82)) (.slice Ao89 t478.length co89)) (fun _ h_ => h_.1))))) (Kd.R_lt (rT (Kd.R_mono (rF gb482 1 (rF gb482 0 (rY HO456 BK482) (.slice Ao82 t475.length co82)) (.slice Ao89 t478.length co89)) (fun _ h_ => h_.1))))) (Kd.R_lt (rT (Kd.R_mono (rF gb482 1 (rF gb482 0 (rY HO461 BK482) (.slice Ao82 t475.length co82)) (.slice Ao89 t478.length co89)) (fun _ h_ => h_.1))))) (Kd.R_lt (rT (Kd.R_mono (rF gb482 1 (rF gb482 0 (rY HO464 BK482) (.slice Ao82 t475.length co82)) (.slice Ao89 t478.length co89)) (fun _ h_ => h_.1))))) (Kd.R_lt (rT (Kd.R_mono (rF gb482 1 (rF gb482 0 (rY HO469 BK482) (.slice Ao82 t475.length co82)) (.slice Ao89 t478.length co89)) (fun _ h_ => h_.1))))) (Kd.R_lt (rT (Kd.R_mono (rF gb482 1 (rF gb482 0 (rY HO472 BK482) (.slice Ao82 t475.length co82)) (.slice Ao89 t478.length co89)) (fun _ h_ => h_.1))))) (Kd.R_lt (rT (Kd.R_mono (rF gb482 1 (rF gb482 0 (rY HO477 BK482) (.slice Ao82 t475.length co82)) (.slice Ao89 t478.length co89)) (fun _ h_ => h_.1))))) (Kd.R_lt (rT (Kd.R_mono (rF gb482 1 (rF gb482 0 (rY HO480 BK482) (.slice Ao82 t475.length co82)) (.slice Ao89 t478.length co89)) (fun _ h_ => h_.1))))) (below_size (bP HB))); replace HO_9 := Aside0.mk (Kd.R_elder' (rT (Kd.R_mono (rF gb482 1 (rF gb482 0 (rY HO_9 BK482) (.slice Ao82 t475.length co82)) (.slice Ao89 t478.length co89)) (fun _ h_ => h_.1))) (Kd.R_base ho0) hb); replace HO445 := Aside0.mk (Kd.R_elder' (rT (Kd.R_mono (rF gb482 1 (rF gb482 0 (rY HO445 BK482) (.slice Ao82 t475.length co82)) (.slice Ao89 t478.length co89)) (fun _ h_ => h_.1))) (Kd.R_base ho0) hb); replace HO448 := Aside0.mk (Kd.R_elder' (rT (Kd.R_mono (rF gb482 1 (rF gb482 0 (rY HO448 BK482) (.slice Ao82 t475.length co82)) (.slice Ao89 t478.length co89)) (fun _ h_ => h_.1))) (Kd.R_base ho0) hb); replace HO453 := Aside0.mk (Kd.R_elder' (rT (Kd.R_mono (rF gb482 1 (rF gb482 0 (rY HO453 BK482) (.slice Ao82 t475.length co82)) (.slice Ao89 t478.length co89)) (fun _ h_ => h_.1))) (Kd.R_base ho0) hb); replace HO456 := Aside0.mk (Kd.R_elder' (rT (Kd.R_mono (rF gb482 1 (rF gb482 0 (rY HO456 BK482) (.slice Ao82 t475.length co82)) (.slice Ao89 t478.length co89)) (fun _ h_ => h_.1))) (Kd.R_base ho0) hb); replace HO461 := Aside0.mk (Kd.R_elder' (rT (Kd.R_mono (rF gb482 1 (rF gb482 0 (rY HO461 BK482) (.slice Ao82 t475.length co82)) (.slice Ao89 t478.length co89)) (fun _ h_ => h_.1))) (Kd.R_base ho0) hb); replace HO464 := Aside0.mk (Kd.R_elder' (rT (Kd.R_mono (rF gb482 1 (rF gb482 0 (rY HO464 BK482) (.slice Ao82 t475.length co82)) (.slice Ao89 t478.length co89)) (fun _ h_ => h_.1))) (Kd.R_base ho0) hb); replace HO469 := Aside0.mk (Kd.R_elder' (rT (Kd.R_mono (rF gb482 1 (rF gb482 0 (rY HO469 BK482) (.slice Ao82 t475.length co82)) (.slice Ao89 t478.length co89)) (fun _ h_ => h_.1))) (Kd.R_base ho0) hb); replace HO472 := Aside0.mk (Kd.R_elder' (rT (Kd.R_mono (rF gb482 1 (rF gb482 0 (rY HO472 BK482) (.slice Ao82 t475.length co82)) (.slice Ao89 t478.length co89)) (fun _ h_ => h_.1))) (Kd.R_base ho0) hb); replace HO477 := Aside0.mk (Kd.R_elder' (rT (Kd.R_mono (rF gb482 1 (rF gb482 0 (rY HO477 BK482) (.slice Ao82 t475.length co82)) (.slice Ao89 t478.length co89)) (fun _ h_ => h_.1))) (Kd.R_base ho0) hb); replace HO480 := Aside0.mk (Kd.R_elder' (rT (Kd.R_mono (rF gb482 1 (rF gb482 0 (rY HO480 BK482) (.slice Ao82 t475.length co82)) (.slice Ao89 t478.length co89)) (fun _ h_ => h_.1))) (Kd.R_base ho0) hb); replace BK430 := kG BK430 hb; replace BK450 := kG BK450 hb; replace BK458 := kG BK458 hb; replace BK466 := kG BK466 hb; replace BK474 := kG BK474 hb; replace BK482 := Aside0.mk (blk_below (g := gb482) (o := .cells #[.slice Ao82 t475.length co82, .slice Ao89 t478.length co89] 24 (0, 0)) (by (with_reducible repeat (first | refine blk_drewN ?_ _ | refine blk_drew ?_ | refine blk_alloc ?_ _)); refine blk_put (cs := #[.slice Ao82 t475.length co82, .slice none 0 0]) ?_ 1 _ rfl; (with_reducible repeat (first | refine blk_drewN ?_ _ | refine blk_drew ?_ | refine blk_alloc ?_ _)); refine blk_put (cs := #[.slice none 0 0, .slice none 0 0]) ?_ 0 _ rfl; (with_reducible repeat (first | refine blk_drewN ?_ _ | refine blk_drew ?_ | refine blk_alloc ?_ _)); exact BK482.out) hb); replace HB := bS HB hb; (try clear hb); (try clear hb2); (try clear hk); (try clear hi); (try clear ho0); have hcz92_0 := zc0 BK458; have hcz92_1 := zc1 BK458; have hfz92_0 := blk_frozen BK458.out 0; have hfz92_1 := blk_frozen BK458.out 1) | ((with_reducible refine gate_callee (f := 7) rfl ?_); refine gL (some 126) Try.func7 #[.agg #[.slice Ao55 t451.length co55, .slice Ao59 t454.length co59]] ?_; (with_reducible refine (impl_MapCounts.calls kj10 _ _ t451 _ _ t454 t487 t490 _ ?side1 ?side2 ?side3 ?side4 A43.out).mono ?_); (case side1 => exact cP (Kd.R_reads' HO453.out).2.2); (case side2 => exact (Kd.R_reads' HO453.out).2.1); (case side3 => exact cP (Kd.R_reads' HO456.out).2.2); (case side4 => exact (Kd.R_reads' HO456.out).2.1); rintro e w93 ⟨v488, rfl, ho0, hb⟩; refine ⟨_, rfl, ?_⟩; have HO489 := Aside0.mk (Kd.R_lower (Kd.R_new' (Kd.R_new' (Kd.R_new' (Kd.R_new' (Kd.R_new' (Kd.R_new' (Kd.R_new' (Kd.R_new' (Kd.R_new' (Kd.R_new' (Kd.R_new' (Kd.R_new' ho0 (Kd.R_lt (rP HO_9))) (Kd.R_lt (rP HO445))) (Kd.R_lt (rP HO448))) (Kd.R_lt (rP HO453))) (Kd.R_lt (rP HO456))) (Kd.R_lt (rP HO461))) (Kd.R_lt (rP HO464))) (Kd.R_lt (rP HO469))) (Kd.R_lt (rP HO472))) (Kd.R_lt (rP HO477))) (Kd.R_lt (rP HO480))) (Kd.R_lt (rP HO485))) (below_size (bP HB))); replace HO_9 := Aside0.mk (Kd.R_elder' (rP HO_9) (Kd.R_base ho0) hb); replace HO445 := Aside0.mk (Kd.R_elder' (rP HO445) (Kd.R_base ho0) hb); replace HO448 := Aside0.mk (Kd.R_elder' (rP HO448) (Kd.R_base ho0) hb); replace HO453 := Aside0.mk (Kd.R_elder' (rP HO453) (Kd.R_base ho0) hb); replace HO456 := Aside0.mk (Kd.R_elder' (rP HO456) (Kd.R_base ho0) hb); replace HO461 := Aside0.mk (Kd.R_elder' (rP HO461) (Kd.R_base ho0) hb); replace HO464 := Aside0.mk (Kd.R_elder' (rP HO464) (Kd.R_base ho0) hb); replace HO469 := Aside0.mk (Kd.R_elder' (rP HO469) (Kd.R_base ho0) hb); replace HO472 := Aside0.mk (Kd.R_elder' (rP HO472) (Kd.R_base ho0) hb); replace HO477 := Aside0.mk (Kd.R_elder' (rP HO477) (Kd.R_base ho0) hb); replace HO480 := Aside0.mk (Kd.R_elder' (rP HO480) (Kd.R_base ho0) hb); replace HO485 := Aside0.mk (Kd.R_elder' (rP HO485) (Kd.R_base ho0) hb); replace BK430 := kB BK430 hb; replace BK450 := kB BK450 hb; replace BK458 := kB BK458 hb; replace BK466 := kB BK466 hb; replace BK474 := kB BK474 hb; replace BK482 := kB BK482 hb; replace HB := bS HB hb; (try clear hb); (try clear hb2); (try clear hk); (try clear hi); (try clear ho0)))
        (try simp only [Act.put, List.setIfInBounds_toArray, List.set_cons_zero, List.set_cons_succ])
        go_cut [193] (fun v193 wc => ∃ (kq : Nat) (x193_43 : Bool), v193 = .bool x193_43 ∧ Aside0 (laws_FnMapWhole.j2 kq l0 l1 l2 t432 t465 x193_43 l0 l1 t459 t462 t467 t470 t475 t478 = some r) ∧ Aside0 (kq ≤ kj10) ∧ Aside0 (Kd.R (Kd.int .i64) 3 wc w.heap.size (fun k_ => oN k_ Ao48 t443 co48 ∧ oN k_ Ao51 t446 co51 ∧ oN k_ Ao55 t451 co55 ∧ oN k_ Ao59 t454 co59 ∧ oN k_ Ao63 t459 co63 ∧ oN k_ Ao68 t462 co68 ∧ oN k_ Ao72 t467 co72 ∧ oN k_ Ao78 t470 co78 ∧ oN k_ Ao82 t475 co82 ∧ oN k_ Ao89 t478 co89) v433 t432) ∧ Aside0 (Kd.R (Kd.int .i64) 3 wc w.heap.size (fun k_ => some k_ ≠ (v433 : Value).ownBlock ∧ oN k_ Ao51 t446 co51 ∧ oN k_ Ao55 t451 co55 ∧ oN k_ Ao59 t454 co59 ∧ oN k_ Ao63 t459 co63 ∧ oN k_ Ao68 t462 co68 ∧ oN k_ Ao72 t467 co72 ∧ oN k_ Ao78 t470 co78 ∧ oN k_ Ao82 t475 co82 ∧ oN k_ Ao89 t478 co89) (.slice Ao48 t443.length co48) t443) ∧ Aside0 (Kd.R (Kd.int .i64) 3 wc w.heap.size (fun k_ => some k_ ≠ (v433 : Value).ownBlock ∧ oN k_ Ao48 t443 co48 ∧ oN k_ Ao55 t451 co55 ∧ oN k_ Ao59 t454 co59 ∧ oN k_ Ao63 t459 co63 ∧ oN k_ Ao68 t462 co68 ∧ oN k_ Ao72 t467 co72 ∧ oN k_ Ao78 t470 co78 ∧ oN k_ Ao82 t475 co82 ∧ oN k_ Ao89 t478 co89) (.slice Ao51 t446.length co51) t446) ∧ Aside0 (Kd.R (Kd.int .i64) 3 wc w.heap.size (fun k_ => some k_ ≠ (v433 : Value).ownBlock ∧ oN k_ Ao48 t443 co48 ∧ oN k_ Ao51 t446 co51 ∧ oN k_ Ao59 t454 co59 ∧ oN k_ Ao63 t459 co63 ∧ oN k_ Ao68 t462 co68 ∧ oN k_ Ao72 t467 co72 ∧ oN k_ Ao78 t470 co78 ∧ oN k_ Ao82 t475 co82 ∧ oN k_ Ao89 t478 co89) (.slice Ao55 t451.length co55) t451) ∧ Aside0 (Kd.R (Kd.int .i64) 3 wc w.heap.size (fun k_ => some k_ ≠ (v433 : Value).ownBlock ∧ oN k_ Ao48 t443 co48 ∧ oN k_ Ao51 t446 co51 ∧ oN k_ Ao55 t451 co55 ∧ oN k_ Ao63 t459 co63 ∧ oN k_ Ao68 t462 co68 ∧ oN k_ Ao72 t467 co72 ∧ oN k_ Ao78 t470 co78 ∧ oN k_ Ao82 t475 co82 ∧ oN k_ Ao89 t478 co89) (.slice Ao59 t454.length co59) t454) ∧ Aside0 (Kd.R (Kd.int .i64) 3 wc w.heap.size (fun k_ => some k_ ≠ (v433 : Value).ownBlock ∧ oN k_ Ao48 t443 co48 ∧ oN k_ Ao51 t446 co51 ∧ oN k_ Ao55 t451 co55 ∧ oN k_ Ao59 t454 co59 ∧ oN k_ Ao68 t462 co68 ∧ oN k_ Ao72 t467 co72 ∧ oN k_ Ao78 t470 co78 ∧ oN k_ Ao82 t475 co82 ∧ oN k_ Ao89 t478 co89) (.slice Ao63 t459.length co63) t459) ∧ Aside0 (Kd.R (Kd.int .i64) 3 wc w.heap.size (fun k_ => some k_ ≠ (v433 : Value).ownBlock ∧ oN k_ Ao48 t443 co48 ∧ oN k_ Ao51 t446 co51 ∧ oN k_ Ao55 t451 co55 ∧ oN k_ Ao59 t454 co59 ∧ oN k_ Ao63 t459 co63 ∧ oN k_ Ao72 t467 co72 ∧ oN k_ Ao78 t470 co78 ∧ oN k_ Ao82 t475 co82 ∧ oN k_ Ao89 t478 co89) (.slice Ao68 t462.length co68) t462) ∧ Aside0 (Kd.R (Kd.int .i64) 3 wc w.heap.size (fun k_ => some k_ ≠ (v433 : Value).ownBlock ∧ oN k_ Ao48 t443 co48 ∧ oN k_ Ao51 t446 co51 ∧ oN k_ Ao55 t451 co55 ∧ oN k_ Ao59 t454 co59 ∧ oN k_ Ao63 t459 co63 ∧ oN k_ Ao68 t462 co68 ∧ oN k_ Ao78 t470 co78 ∧ oN k_ Ao82 t475 co82 ∧ oN k_ Ao89 t478 co89) (.slice Ao72 t467.length co72) t467) ∧ Aside0 (Kd.R (Kd.int .i64) 3 wc w.heap.size (fun k_ => some k_ ≠ (v433 : Value).ownBlock ∧ oN k_ Ao48 t443 co48 ∧ oN k_ Ao51 t446 co51 ∧ oN k_ Ao55 t451 co55 ∧ oN k_ Ao59 t454 co59 ∧ oN k_ Ao63 t459 co63 ∧ oN k_ Ao68 t462 co68 ∧ oN k_ Ao72 t467 co72 ∧ oN k_ Ao82 t475 co82 ∧ oN k_ Ao89 t478 co89) (.slice Ao78 t470.length co78) t470) ∧ Aside0 (Kd.R (Kd.int .i64) 3 wc w.heap.size (fun k_ => some k_ ≠ (v433 : Value).ownBlock ∧ oN k_ Ao48 t443 co48 ∧ oN k_ Ao51 t446 co51 ∧ oN k_ Ao55 t451 co55 ∧ oN k_ Ao59 t454 co59 ∧ oN k_ Ao63 t459 co63 ∧ oN k_ Ao68 t462 co68 ∧ oN k_ Ao72 t467 co72 ∧ oN k_ Ao78 t470 co78 ∧ oN k_ Ao89 t478 co89) (.slice Ao82 t475.length co82) t475) ∧ Aside0 (Kd.R (Kd.int .i64) 3 wc w.heap.size (fun k_ => some k_ ≠ (v433 : Value).ownBlock ∧ oN k_ Ao48 t443 co48 ∧ oN k_ Ao51 t446 co51 ∧ oN k_ Ao55 t451 co55 ∧ oN k_ Ao59 t454 co59 ∧ oN k_ Ao63 t459 co63 ∧ oN k_ Ao68 t462 co68 ∧ oN k_ Ao72 t467 co72 ∧ oN k_ Ao78 t470 co78 ∧ oN k_ Ao82 t475 co82) (.slice Ao89 t478.length co89) t478) ∧ Aside0 (wc.heap[gb430]? = some (.cells #[(.slice A0 l0.length c0), (.slice A1 l1.length c1)] 24 (0, 0))) ∧ Aside0 (wc.heap[gb450]? = some (.cells #[(.slice Ao48 t443.length co48), (.slice Ao51 t446.length co51)] 24 (0, 0))) ∧ Aside0 (wc.heap[gb458]? = some (.cells #[(.slice Ao55 t451.length co55), (.slice Ao59 t454.length co59)] 24 (0, 0))) ∧ Aside0 (wc.heap[gb466]? = some (.cells #[(.slice Ao63 t459.length co63), (.slice Ao68 t462.length co68)] 24 (0, 0))) ∧ Aside0 (wc.heap[gb474]? = some (.cells #[(.slice Ao72 t467.length co72), (.slice Ao78 t470.length co78)] 24 (0, 0))) ∧ Aside0 (wc.heap[gb482]? = some (.cells #[(.slice Ao82 t475.length co82), (.slice Ao89 t478.length co89)] 24 (0, 0))) ∧ Aside0 (Below w.heap.size w wc))
        case first =>
         have H := HC44.out
         clear HC44
         by_cases c94 : t449 = true
         case neg =>
          replace c94 := Bool.eq_false_iff.mpr c94
          subst c94
          rw [iF] at H
          exact (laws_FnMapWhole.j2_no _ _ _ _ _ _ _ _ _ _ _ _ _ _ (H.trans (congrArg some hr_.out))).elim
         subst c94
         rw [if_pos rfl] at H
         by_cases c95 : t457 = true
         case neg =>
          replace c95 := Bool.eq_false_iff.mpr c95
          subst c95
          rw [iF] at H
          exact (laws_FnMapWhole.j2_no _ _ _ _ _ _ _ _ _ _ _ _ _ _ (H.trans (congrArg some hr_.out))).elim
         subst c95
         rw [if_pos rfl] at H
         by_cases c96 : t473 = true
         case neg =>
          replace c96 := Bool.eq_false_iff.mpr c96
          subst c96
          rw [iF] at H
          exact (laws_FnMapWhole.j2_no _ _ _ _ _ _ _ _ _ _ _ _ _ _ (H.trans (congrArg some hr_.out))).elim
         subst c96
         rw [if_pos rfl] at H
         as_aux_lemma =>
         by_cases c97 : t481 = true
         case neg =>
          replace c97 := Bool.eq_false_iff.mpr c97
          subst c97
          rw [iF] at H
          exact (laws_FnMapWhole.j2_no _ _ _ _ _ _ _ _ _ _ _ _ _ _ (H.trans (congrArg some hr_.out))).elim
         subst c97
         rw [if_pos rfl] at H
         by_cases c98 : t486 = true
         case neg =>
          replace c98 := Bool.eq_false_iff.mpr c98
          subst c98
          rw [iF] at H
          exact (laws_FnMapWhole.j2_no _ _ _ _ _ _ _ _ _ _ _ _ _ _ (H.trans (congrArg some hr_.out))).elim
         subst c98
         rw [if_pos rfl] at H
         by_cases c99 : t490 = true
         case neg =>
          replace c99 := Bool.eq_false_iff.mpr c99
          subst c99
          rw [iF] at H
          exact (laws_FnMapWhole.j2_no _ _ _ _ _ _ _ _ _ _ _ _ _ _ (H.trans (congrArg some hr_.out))).elim
         subst c99
         rw [if_pos rfl] at H
         by_cases c100 : (t432.length : Int) = 3
         case neg =>
          rw [if_neg c100] at H
          have c100b0 : ((t432.length : Int) == 3) = false := beq_eq_false_iff_ne.mpr c100
          have c100b1 : ((t432.length : Int) != 3) = true := bne_iff_ne.mpr c100
          (first | rw [c100b0] | (simp only [i64_w, i32_w]; rw [c100b0]) | skip)
          exact (laws_FnMapWhole.j2_no _ _ _ _ _ _ _ _ _ _ _ _ _ _ (H.trans (congrArg some hr_.out))).elim
         as_aux_lemma =>
         rw [if_pos c100] at H
         have c100b0 : ((t432.length : Int) == 3) = true := beq_iff_eq.mpr c100
         have c100b1 : ((t432.length : Int) != 3) = false := bne_eq_false_iff_eq.mpr c100
         clear c100
         (first | rw [c100b0] | (simp only [i64_w, i32_w]; rw [c100b0]) | skip)
         by_cases c101 : 0 < (t432.length : Int)
         case neg =>
          rw [if_neg c101] at H
          exact absurd H (by simp)
         rw [if_pos c101] at H
         have c101b0 : decide (0 < (t432.length : Int)) = true := decide_eq_true c101
         have c101b1 : decide (0 < t432.length) = true := decide_eq_true (by omega)
         clear c101
         by_cases c102 : 1 < (t432.length : Int)
         case neg =>
          rw [if_neg c102] at H
          exact absurd H (by simp)
         rw [if_pos c102] at H
         have c102b0 : decide (1 < (t432.length : Int)) = true := decide_eq_true c102
         have c102b1 : decide (1 < t432.length) = true := decide_eq_true (by omega)
         clear c102
         by_cases c103 : 2 < (t432.length : Int)
         case neg =>
          rw [if_neg c103] at H
          exact absurd H (by simp)
         rw [if_pos c103] at H
         have c103b0 : decide (2 < (t432.length : Int)) = true := decide_eq_true c103
         have c103b1 : decide (2 < t432.length) = true := decide_eq_true (by omega)
         clear c103
         by_cases c104 : (wrap64 ((wrap64 ((rd t432 0) - (rd t432 1))) + (rd t432 2))) = (wrap64 (2 - (wrap64 (2 * t436))))
         case neg =>
          rw [if_neg c104] at H
          as_aux_lemma =>
          have c104b0 : ((wrap64 ((wrap64 ((rd t432 0) - (rd t432 1))) + (rd t432 2))) == (wrap64 (2 - (wrap64 (2 * t436))))) = false := beq_eq_false_iff_ne.mpr c104
          have c104b1 : ((wrap64 ((wrap64 ((rd t432 0) - (rd t432 1))) + (rd t432 2))) != (wrap64 (2 - (wrap64 (2 * t436))))) = true := bne_iff_ne.mpr c104
          exact (laws_FnMapWhole.j2_no _ _ _ _ _ _ _ _ _ _ _ _ _ _ (H.trans (congrArg some hr_.out))).elim
         rw [if_pos c104] at H
         have c104b0 : ((wrap64 ((wrap64 ((rd t432 0) - (rd t432 1))) + (rd t432 2))) == (wrap64 (2 - (wrap64 (2 * t436))))) = true := beq_iff_eq.mpr c104
         have c104b1 : ((wrap64 ((wrap64 ((rd t432 0) - (rd t432 1))) + (rd t432 2))) != (wrap64 (2 - (wrap64 (2 * t436))))) = false := bne_eq_false_iff_eq.mpr c104
         clear c104
         obtain ⟨t494, A1050, H⟩ := Option.bind_eq_some_iff.mp H
         have A105 := Aside0.mk A1050
         clear A1050
         by_cases c106 : t494 = true
         case neg =>
          replace c106 := Bool.eq_false_iff.mpr c106
          subst c106
          rw [iF] at H
          exact (laws_FnMapWhole.j2_no _ _ _ _ _ _ _ _ _ _ _ _ _ _ (H.trans (congrArg some hr_.out))).elim
         subst c106
         rw [if_pos rfl] at H
         obtain ⟨y498, hy498⟩ : ∃ y_ : List Int, y_ = (([rd t432 2, rd t432 1, rd t432 0] : List Int)) := ⟨_, rfl⟩
         replace H : ((laws_sameInts.f kj10 t483 y498).bind fun t501 => (laws_FnMapWhole.j2 kj10 l0 l1 l2 t432 t465 (!t501) l0 l1 t459 t462 t467 t470 t475 t478)) = some r := by first | (rw [hy498]; with_reducible exact H) | (have H2_ := (Option.bind_some _ _).symm.trans H; rw [hy498]; with_reducible exact H2_) | (have H2_ := (Option.bind_some _ _).symm.trans H; with_reducible exact H2_) | with_reducible exact H | (rw [hy498]; exact H) | exact H
         have Ny498 := Aside0.mk hy498
         clear hy498
         obtain ⟨t501, A1070, H⟩ := Option.bind_eq_some_iff.mp H
         have A107 := Aside0.mk A1070
         clear A1070
         have H' := Aside0.mk H
         clear H
         try go_wp2
         replace HO_9 := Aside0.mk (Kd.R_drew HO_9.out)
         replace HO445 := Aside0.mk (Kd.R_drew HO445.out)
         as_aux_lemma =>
         replace HO448 := Aside0.mk (Kd.R_drew HO448.out)
         replace HO453 := Aside0.mk (Kd.R_drew HO453.out)
         replace HO456 := Aside0.mk (Kd.R_drew HO456.out)
         replace HO461 := Aside0.mk (Kd.R_drew HO461.out)
         replace HO464 := Aside0.mk (Kd.R_drew HO464.out)
         replace HO469 := Aside0.mk (Kd.R_drew HO469.out)
         replace HO472 := Aside0.mk (Kd.R_drew HO472.out)
         replace HO477 := Aside0.mk (Kd.R_drew HO477.out)
         replace HO480 := Aside0.mk (Kd.R_drew HO480.out)
         replace HO485 := Aside0.mk (Kd.R_drew HO485.out)
         replace HO489 := Aside0.mk (Kd.R_drew HO489.out)
         replace BK430 := Aside0.mk (blk_drew BK430.out)
         replace BK450 := Aside0.mk (blk_drew BK450.out)
         replace BK458 := Aside0.mk (blk_drew BK458.out)
         replace BK466 := Aside0.mk (blk_drew BK466.out)
         replace BK474 := Aside0.mk (blk_drew BK474.out)
         replace BK482 := Aside0.mk (blk_drew BK482.out)
         replace HB := Aside0.mk (below_drew1 HB.out)
         obtain ⟨Ao109, co109, eo109⟩ := Kd.R_slice HO_9.out
         (first | subst eo109 | (injection eo109 with f1_ f2_ f3_; have f4_ := f1_.symm; have f5_ := f3_.symm; clear f1_ f2_ f3_; subst f4_; subst f5_))
         have p491 : 0 ≤ (0 : Int) := (by omega)
         have q491 : 0 < (t432.length : Int) := dT
         obtain ⟨ad491, e491, hx491_0⟩ := Kd.at_int (Kd.R_reads' HO_9.out).2.2 0 p491 q491
         cases e491
         have qi491 : (0 < t432.length) = True := eq_true (by omega)
         (try rw [show ((0 : Int)).toNat = 0 from rfl] at hx491_0)
         (try rw [Addr.add_zero'] at hx491_0)
         replace p491 := eq_true p491
         replace q491 := eq_true q491
         have p492 : 0 ≤ (1 : Int) := (by omega)
         as_aux_lemma =>
         have q492 : 1 < (t432.length : Int) := dT
         obtain ⟨ad492, e492, hx492_0⟩ := Kd.at_int (Kd.R_reads' HO_9.out).2.2 1 p492 q492
         obtain rfl : ad491 = ad492 := (by injection e492)
         (try simp only [show (1 : Int).toNat = 1 from rfl, Nat.reduceMul, Nat.reduceEqDiff, Go.Addr.add, ↓reduceIte] at hx492_0)
         have qi492 : (1 < t432.length) = True := eq_true (by omega)
         (try rw [show ((1 : Int)).toNat = 1 from rfl] at hx492_0)
         replace p492 := eq_true p492
         replace q492 := eq_true q492
         have p493 : 0 ≤ (2 : Int) := (by omega)
         have q493 : 2 < (t432.length : Int) := dT
         obtain ⟨ad493, e493, hx493_0⟩ := Kd.at_int (Kd.R_reads' HO_9.out).2.2 2 p493 q493
         obtain rfl : ad491 = ad493 := (by injection e493)
         (try simp only [show (2 : Int).toNat = 2 from rfl, Nat.reduceMul, Nat.reduceEqDiff, Go.Addr.add, ↓reduceIte] at hx493_0)
         have qi493 : (2 < t432.length) = True := eq_true (by omega)
         (try rw [show ((2 : Int)).toNat = 2 from rfl] at hx493_0)
         replace p493 := eq_true p493
         replace q493 := eq_true q493
         obtain ⟨Ao110, co110, eo110⟩ := Kd.R_slice HO489.out
         (first | subst eo110 | (injection eo110 with f1_ f2_ f3_; have f4_ := f1_.symm; have f5_ := f3_.symm; clear f1_ f2_ f3_; subst f4_; subst f5_))
         have p495 : 0 ≤ (2 : Int) := (by omega)
         have q495 : 2 < (t432.length : Int) := dT
         obtain ⟨ad495, e495, hx495_0⟩ := Kd.at_int (Kd.R_reads' HO_9.out).2.2 2 p495 q495
         obtain rfl : ad491 = ad495 := (by injection e495)
         (try simp only [show (2 : Int).toNat = 2 from rfl, Nat.reduceMul, Nat.reduceEqDiff, Go.Addr.add, ↓reduceIte] at hx495_0)
         have qi495 : (2 < t432.length) = True := eq_true (by omega)
         (try rw [show ((2 : Int)).toNat = 2 from rfl] at hx495_0)
         replace p495 := eq_true p495
         replace q495 := eq_true q495
         have p496 : 0 ≤ (1 : Int) := (by omega)
         have q496 : 1 < (t432.length : Int) := dT
         as_aux_lemma =>
         obtain ⟨ad496, e496, hx496_0⟩ := Kd.at_int (Kd.R_reads' HO_9.out).2.2 1 p496 q496
         obtain rfl : ad491 = ad496 := (by injection e496)
         (try simp only [show (1 : Int).toNat = 1 from rfl, Nat.reduceMul, Nat.reduceEqDiff, Go.Addr.add, ↓reduceIte] at hx496_0)
         have qi496 : (1 < t432.length) = True := eq_true (by omega)
         (try rw [show ((1 : Int)).toNat = 1 from rfl] at hx496_0)
         replace p496 := eq_true p496
         replace q496 := eq_true q496
         have p497 : 0 ≤ (0 : Int) := (by omega)
         have q497 : 0 < (t432.length : Int) := dT
         obtain ⟨ad497, e497, hx497_0⟩ := Kd.at_int (Kd.R_reads' HO_9.out).2.2 0 p497 q497
         obtain rfl : ad491 = ad497 := (by injection e497)
         have qi497 : (0 < t432.length) = True := eq_true (by omega)
         (try rw [show ((0 : Int)).toNat = 0 from rfl] at hx497_0)
         (try rw [Addr.add_zero'] at hx497_0)
         replace p497 := eq_true p497
         replace q497 := eq_true q497
         as_aux_lemma =>
         refine start_ (n := 65) (S := fun w' => w'.cell? ad491 = some (.int .i64 (rd t432 0)) ∧ w'.cell? ⟨ad491.block, ad491.off + 1, none⟩ = some (.int .i64 (rd t432 1)) ∧ w'.cell? ⟨ad491.block, ad491.off + 2, none⟩ = some (.int .i64 (rd t432 2)) ∧ w'.cell? ⟨ad491.block, ad491.off + 2, none⟩ = some (.int .i64 (rd t432 2)) ∧ w'.cell? ⟨ad491.block, ad491.off + 1, none⟩ = some (.int .i64 (rd t432 1)) ∧ w'.cell? ad491 = some (.int .i64 (rd t432 0))) (ds := []) (tf 0 65) (by kernel_rfl) rfl rfl ⟨hx491_0, hx492_0, hx493_0, hx495_0, hx496_0, hx497_0⟩ (fun hHeld => ?_); refine with_tabW laws_FnMapWhole.tab18 laws_FnMapWhole.bits18 (fun HT_ HW_ => ?_)
         generalize w93.drew = w108 at HO_9 HO445 HO448 HO453 HO456 HO461 HO464 HO469 HO472 HO477 HO480 HO485 HO489 BK430 BK450 BK458 BK466 BK474 BK482 HB hx491_0 hx492_0 hx493_0 hx495_0 hx496_0 hx497_0 hHeld ⊢
         refine pV 0 129 (tf 1 64) HT_ ?_
         refine pV 1 130 (tf 2 63) HT_ ?_
         refine pV 2 131 (tf 3 62) HT_ ?_
         refine pV 3 132 (tf 4 61) HT_ ?_
         refine pV 4 133 (tf 5 60) HT_ ?_
         refine pV 5 134 (tf 6 59) HT_ ?_
         refine pV 6 135 (tf 7 58) HT_ ?_
         refine pV 7 136 (tf 8 57) HT_ ?_
         refine pV 8 137 (tf 9 56) HT_ ?_
         refine pV 9 138 (tf 10 55) HT_ ?_
         refine pV 10 139 (tf 11 54) HT_ ?_
         refine pV 11 140 (tf 12 53) HT_ ?_
         refine pV 12 141 (tf 13 52) HT_ ?_
         refine pV 13 142 (tf 14 51) HT_ ?_
         refine pV 14 143 (tf 15 50) HT_ ?_
         refine pV 15 144 (tf 16 49) HT_ ?_
         refine pV 16 145 (tf 17 48) HT_ ?_
         refine pV 17 146 (tf 18 47) HT_ ?_
         refine pV 18 147 (tf 19 46) HT_ ?_
         refine pV 19 148 (tf 20 45) HT_ ?_
         refine pV 20 149 (tf 21 44) HT_ ?_
         refine pV 21 150 (tf 22 43) HT_ ?_
         refine pV 22 151 (tf 23 42) HT_ ?_
         refine pV 23 152 (tf 24 41) HT_ ?_
         refine pV 24 153 (tf 25 40) HT_ ?_
         refine pV 25 154 (tf 26 39) HT_ ?_
         refine pV 26 155 (tf 27 38) HT_ ?_
         refine pV 27 156 (tf 28 37) HT_ ?_
         as_aux_lemma =>
         refine pV 28 157 (tf 29 36) HT_ ?_
         refine pV 29 158 (tf 30 35) HT_ ?_
         refine pV 31 160 (tB 65 3221225471) HT_ ?_
         refine pV 32 161 (tB 65 7516192767) HT_ ?_
         refine pV 35 164 (tB 65 41875931135) HT_ ?_
         refine pV 36 165 (tB 65 110595407871) HT_ ?_
         refine pV 39 168 (tB 65 660351221759) HT_ ?_
         refine pV 40 169 (tB 65 1759862849535) HT_ ?_
         refine pV 41 170 (tB 65 3958886105087) HT_ ?_
         refine tV 30 159 (tB 65 3959959846911) HT_ HW_ hHeld ?_
         refine tV 33 162 (tB 65 3968549781503) HT_ HW_ hHeld ?_
         refine pV 34 163 (tB 65 3985729650687) HT_ ?_
         refine tV 37 166 (tB 65 4123168604159) HT_ HW_ hHeld ?_
         refine pV 38 167 (tf 42 23) HT_ ?_
         refine pV 42 171 (tf 43 22) HT_ ?_
         refine pV 43 172 (tf 44 21) HT_ ?_
         refine pV 44 173 (tf 45 20) HT_ ?_
         refine pV 45 174 (tf 46 19) HT_ ?_
         refine pV 46 175 (tf 47 18) HT_ ?_
         refine eN 47 (some 176) (tf 48 17) HT_ (fun K hK => ?_)
         refine goes_ Try.func15 (by kernel_rfl) rfl #[.slice Ao110 t487.length co110, .slice (some ad491) t432.length co109] (by rfl) rfl rfl (by (try simp only [List.map_toArray, List.map_cons, List.map_nil]); first | done | rfl | (simp only [List.length_drop, List.length_take]; rfl)) ?_
         with_reducible refine (laws_sameInts.calls kj10 _ _ t487 _ _ t432 true _ ?side1 ?side2 ?side3 ?side4 A105.out).mono ?_
         (case side1 => exact cP (Kd.R_reads' HO489.out).2.2)
         (case side2 => exact (Kd.R_reads' HO489.out).2.1)
         (case side3 => exact cP (Kd.R_reads' HO_9.out).2.2)
         (case side4 => exact (Kd.R_reads' HO_9.out).2.1)
         rintro e w' ⟨rfl, ⟨nd, rfl⟩⟩
         refine ⟨_, rfl, ?_⟩
         refine hK.out _ _ ⟨hHeld.1, hHeld.2.1, hHeld.2.2.1, hHeld.2.2.2.1, hHeld.2.2.2.2.1, hHeld.2.2.2.2.2⟩ (fun hHeld => ?_)
         clear hK K
         refine norm_ (a' := ?_) ?_ ?_
         rotate_left
         ·show Act.put _ (some 176) _ = _
          simp only [Act.put, List.setIfInBounds_toArray, List.set_cons_zero, List.set_cons_succ, i64_w, i32_w]
          rfl
         as_aux_lemma =>
         refine pV 48 177 (tf 49 16) HT_ ?_
         refine pV 49 178 (tf 50 15) HT_ ?_
         refine pV 50 179 (tf 51 14) HT_ ?_
         refine pV 51 180 (tf 52 13) HT_ ?_
         refine pV 52 181 (tf 53 12) HT_ ?_
         refine pV 53 182 (tf 54 11) HT_ ?_
         refine pV 55 184 (tB 65 54043195528445951) HT_ ?_
         refine pV 56 185 (tB 65 126100789566373887) HT_ ?_
         refine pV 58 187 (tB 65 414331165718085631) HT_ ?_
         refine pV 59 188 (tB 65 990791918021509119) HT_ ?_
         refine tV 54 183 (tB 65 1008806316530991103) HT_ HW_ hHeld ?_
         refine tV 57 186 (tf 60 5) HT_ HW_ hHeld ?_
         refine tV 60 189 (tf 61 4) HT_ HW_ hHeld ?_
         refine eN 61 (some 190) (tf 62 3) HT_ (fun K hK => ?_)
         refine Kd.R_lit_step (Kd.int .i64) _ 3 ?hg (N := 190) ?hd (xs := ([rd t432 2, rd t432 1, rd t432 0] : List Int)) (inner := [.int .i64 (rd t432 2), .int .i64 (rd t432 1), .int .i64 (rd t432 0)]) (ok := fun _ => True) (okp := fun _ => True) ?hr ?hp (fun _ hk => hk) trivial (Below.refl _ _) (Nat.le_refl _) (by simp) ?_; (case hd => rfl); (case hg => rfl); (case hr => first | (go_simp; done) | (go_simp; rfl)); (case hp => exact (Reps.one (show Kd.M (Kd.int .i64) _ _ _ (rd t432 2) [.int .i64 (rd t432 2)] from rfl) (Reps.one (show Kd.M (Kd.int .i64) _ _ _ (rd t432 1) [.int .i64 (rd t432 1)] from rfl) (Reps.one (show Kd.M (Kd.int .i64) _ _ _ (rd t432 0) [.int .i64 (rd t432 0)] from rfl) (Reps.none _ _)))))
         intro v499 w111 ho112 hb hg_ hnew_
         have HS0_ := (hb.cell (World.block_lt_of_cell? _ _ (hHeld.1))).trans (hHeld.1)
         have HS1_ := (hb.cell (World.block_lt_of_cell? _ _ (hHeld.2.1))).trans (hHeld.2.1)
         have HS2_ := (hb.cell (World.block_lt_of_cell? _ _ (hHeld.2.2.1))).trans (hHeld.2.2.1)
         have HS3_ := (hb.cell (World.block_lt_of_cell? _ _ (hHeld.2.2.2.1))).trans (hHeld.2.2.2.1)
         have HS4_ := (hb.cell (World.block_lt_of_cell? _ _ (hHeld.2.2.2.2.1))).trans (hHeld.2.2.2.2.1)
         have HS5_ := (hb.cell (World.block_lt_of_cell? _ _ (hHeld.2.2.2.2.2))).trans (hHeld.2.2.2.2.2)
         clear hg_ hnew_
         (first | rw [← Ny498.out] at ho112 | (simp only [Int.reduceToNat] at ho112; rw [← Ny498.out] at ho112))
         have HO500 := Aside0.mk (Kd.R_lower (Kd.R_new' (Kd.R_new' (Kd.R_new' (Kd.R_new' (Kd.R_new' (Kd.R_new' (Kd.R_new' (Kd.R_new' (Kd.R_new' (Kd.R_new' (Kd.R_new' (Kd.R_new' (Kd.R_new' ho112 (Kd.R_lt (rP HO_9))) (Kd.R_lt (rP HO445))) (Kd.R_lt (rP HO448))) (Kd.R_lt (rP HO453))) (Kd.R_lt (rP HO456))) (Kd.R_lt (rP HO461))) (Kd.R_lt (rP HO464))) (Kd.R_lt (rP HO469))) (Kd.R_lt (rP HO472))) (Kd.R_lt (rP HO477))) (Kd.R_lt (rP HO480))) (Kd.R_lt (rP HO485))) (Kd.R_lt (rP HO489))) (below_size (bP HB)))
         replace HO_9 := Aside0.mk (Kd.R_elder' (rP HO_9) (Kd.R_base ho112) hb)
         replace HO445 := Aside0.mk (Kd.R_elder' (rP HO445) (Kd.R_base ho112) hb)
         replace HO448 := Aside0.mk (Kd.R_elder' (rP HO448) (Kd.R_base ho112) hb)
         replace HO453 := Aside0.mk (Kd.R_elder' (rP HO453) (Kd.R_base ho112) hb)
         replace HO456 := Aside0.mk (Kd.R_elder' (rP HO456) (Kd.R_base ho112) hb)
         as_aux_lemma =>
         replace HO461 := Aside0.mk (Kd.R_elder' (rP HO461) (Kd.R_base ho112) hb)
         replace HO464 := Aside0.mk (Kd.R_elder' (rP HO464) (Kd.R_base ho112) hb)
         replace HO469 := Aside0.mk (Kd.R_elder' (rP HO469) (Kd.R_base ho112) hb)
         replace HO472 := Aside0.mk (Kd.R_elder' (rP HO472) (Kd.R_base ho112) hb)
         replace HO477 := Aside0.mk (Kd.R_elder' (rP HO477) (Kd.R_base ho112) hb)
         replace HO480 := Aside0.mk (Kd.R_elder' (rP HO480) (Kd.R_base ho112) hb)
         replace HO485 := Aside0.mk (Kd.R_elder' (rP HO485) (Kd.R_base ho112) hb)
         replace HO489 := Aside0.mk (Kd.R_elder' (rP HO489) (Kd.R_base ho112) hb)
         replace BK430 := kB BK430 hb
         replace BK450 := kB BK450 hb
         replace BK458 := kB BK458 hb
         replace BK466 := kB BK466 hb
         replace BK474 := kB BK474 hb
         replace BK482 := kB BK482 hb
         replace HB := bS HB hb
         clear hb ho112
         obtain ⟨Ao113, co113, eo113⟩ := Kd.R_slice HO485.out
         (first | subst eo113 | (injection eo113 with f1_ f2_ f3_; have f4_ := f1_.symm; have f5_ := f3_.symm; clear f1_ f2_ f3_; subst f4_; subst f5_))
         obtain ⟨Ao114, co114, eo114⟩ := Kd.R_slice HO500.out
         (first | subst eo114 | (injection eo114 with f1_ f2_ f3_; have f4_ := f1_.symm; have f5_ := f3_.symm; clear f1_ f2_ f3_; subst f4_; subst f5_))
         refine hK.out _ _ ⟨HS0_, HS1_, HS2_, HS3_, HS4_, HS5_⟩ (fun hHeld => ?_)
         clear hK K
         refine norm_ (a' := ?_) ?_ ?_
         rotate_left
         ·show Act.put _ (some 190) _ = _
          simp only [Act.put, List.setIfInBounds_toArray, List.set_cons_zero, List.set_cons_succ, i64_w, i32_w]
          rfl
         refine eN 62 (some 191) (tf 63 2) HT_ (fun K hK => ?_)
         refine goes_ Try.func15 (by kernel_rfl) rfl #[.slice Ao113 t483.length co113, .slice Ao114 y498.length co114] (by rfl) rfl rfl (by (try simp only [List.map_toArray, List.map_cons, List.map_nil]); first | done | rfl | (simp only [List.length_drop, List.length_take]; rfl)) ?_
         with_reducible refine (laws_sameInts.calls kj10 _ _ t483 _ _ y498 t501 _ ?side1 ?side2 ?side3 ?side4 A107.out).mono ?_
         (case side1 => exact cP (Kd.R_reads' HO485.out).2.2)
         (case side2 => exact (Kd.R_reads' HO485.out).2.1)
         (case side3 => exact cP (Kd.R_reads' HO500.out).2.2)
         (case side4 => exact (Kd.R_reads' HO500.out).2.1)
         rintro e w' ⟨rfl, ⟨nd, rfl⟩⟩
         refine ⟨_, rfl, ?_⟩
         refine hK.out _ _ ⟨hHeld.1, hHeld.2.1, hHeld.2.2.1, hHeld.2.2.2.1, hHeld.2.2.2.2.1, hHeld.2.2.2.2.2⟩ (fun hHeld => ?_)
         as_aux_lemma =>
         clear hK K
         refine norm_ (a' := ?_) ?_ ?_
         rotate_left
         ·show Act.put _ (some 191) _ = _
          simp only [Act.put, List.setIfInBounds_toArray, List.set_cons_zero, List.set_cons_succ, i64_w, i32_w]
          rfl
         refine pV 63 192 (tf 64 1) HT_ ?_
         refine pV 64 193 (tf 65 0) HT_ ?_
         refine done_ (done_of HT_.out (by kernel_rfl)) ?_
         try go_wp2
         go_meet
         case rel => exact ⟨_, (!t501), eS, H', ⟨by have := HJ3.out; have := HJ10.out; first | omega | exact Nat.le_refl _⟩, ⟨rT (Kd.R_mono HO_9.out (fun _ hk => ⟨hk.1.1.1.1.1.1.1.1.1.1.1.1.2, ⟨hk.1.1.1.1.1.1.1.1.1.1.1.2, ⟨hk.1.1.1.1.1.1.1.1.1.1.2, ⟨hk.1.1.1.1.1.1.1.1.1.2, ⟨hk.1.1.1.1.1.1.1.1.2, ⟨hk.1.1.1.1.1.1.1.2, ⟨hk.1.1.1.1.1.1.2, ⟨hk.1.1.1.1.1.2, ⟨hk.1.1.1.1.2, hk.1.1.1.2⟩⟩⟩⟩⟩⟩⟩⟩⟩))⟩, ⟨rT (Kd.R_mono HO445.out (fun _ hk => ⟨hk.1.1.1.1.1.1.1.1.1.1.1.2, ⟨hk.1.1.1.1.1.1.1.1.1.1.1.1, ⟨hk.1.1.1.1.1.1.1.1.1.1.2, ⟨hk.1.1.1.1.1.1.1.1.1.2, ⟨hk.1.1.1.1.1.1.1.1.2, ⟨hk.1.1.1.1.1.1.1.2, ⟨hk.1.1.1.1.1.1.2, ⟨hk.1.1.1.1.1.2, ⟨hk.1.1.1.1.2, hk.1.1.1.2⟩⟩⟩⟩⟩⟩⟩⟩⟩))⟩, ⟨rT (Kd.R_mono HO448.out (fun _ hk => ⟨hk.1.1.1.1.1.1.1.1.1.1.1.2, ⟨hk.1.1.1.1.1.1.1.1.1.1.1.1, ⟨hk.1.1.1.1.1.1.1.1.1.1.2, ⟨hk.1.1.1.1.1.1.1.1.1.2, ⟨hk.1.1.1.1.1.1.1.1.2, ⟨hk.1.1.1.1.1.1.1.2, ⟨hk.1.1.1.1.1.1.2, ⟨hk.1.1.1.1.1.2, ⟨hk.1.1.1.1.2, hk.1.1.1.2⟩⟩⟩⟩⟩⟩⟩⟩⟩))⟩, ⟨rT (Kd.R_mono HO453.out (fun _ hk => ⟨hk.1.1.1.1.1.1.1.1.1.1.1.2, ⟨hk.1.1.1.1.1.1.1.1.1.1.2, ⟨hk.1.1.1.1.1.1.1.1.1.2, ⟨hk.1.1.1.1.1.1.1.1.1.1.1.1, ⟨hk.1.1.1.1.1.1.1.1.2, ⟨hk.1.1.1.1.1.1.1.2, ⟨hk.1.1.1.1.1.1.2, ⟨hk.1.1.1.1.1.2, ⟨hk.1.1.1.1.2, hk.1.1.1.2⟩⟩⟩⟩⟩⟩⟩⟩⟩))⟩, ⟨rT (Kd.R_mono HO456.out (fun _ hk => ⟨hk.1.1.1.1.1.1.1.1.1.1.1.2, ⟨hk.1.1.1.1.1.1.1.1.1.1.2, ⟨hk.1.1.1.1.1.1.1.1.1.2, ⟨hk.1.1.1.1.1.1.1.1.1.1.1.1, ⟨hk.1.1.1.1.1.1.1.1.2, ⟨hk.1.1.1.1.1.1.1.2, ⟨hk.1.1.1.1.1.1.2, ⟨hk.1.1.1.1.1.2, ⟨hk.1.1.1.1.2, hk.1.1.1.2⟩⟩⟩⟩⟩⟩⟩⟩⟩))⟩, ⟨rT (Kd.R_mono HO461.out (fun _ hk => ⟨hk.1.1.1.1.1.1.1.1.1.1.1.2, ⟨hk.1.1.1.1.1.1.1.1.1.1.2, ⟨hk.1.1.1.1.1.1.1.1.1.2, ⟨hk.1.1.1.1.1.1.1.1.2, ⟨hk.1.1.1.1.1.1.1.2, ⟨hk.1.1.1.1.1.1.1.1.1.1.1.1, ⟨hk.1.1.1.1.1.1.2, ⟨hk.1.1.1.1.1.2, ⟨hk.1.1.1.1.2, hk.1.1.1.2⟩⟩⟩⟩⟩⟩⟩⟩⟩))⟩, ⟨rT (Kd.R_mono HO464.out (fun _ hk => ⟨hk.1.1.1.1.1.1.1.1.1.1.1.2, ⟨hk.1.1.1.1.1.1.1.1.1.1.2, ⟨hk.1.1.1.1.1.1.1.1.1.2, ⟨hk.1.1.1.1.1.1.1.1.2, ⟨hk.1.1.1.1.1.1.1.2, ⟨hk.1.1.1.1.1.1.1.1.1.1.1.1, ⟨hk.1.1.1.1.1.1.2, ⟨hk.1.1.1.1.1.2, ⟨hk.1.1.1.1.2, hk.1.1.1.2⟩⟩⟩⟩⟩⟩⟩⟩⟩))⟩, ⟨rT (Kd.R_mono HO469.out (fun _ hk => ⟨hk.1.1.1.1.1.1.1.1.1.1.1.2, ⟨hk.1.1.1.1.1.1.1.1.1.1.2, ⟨hk.1.1.1.1.1.1.1.1.1.2, ⟨hk.1.1.1.1.1.1.1.1.2, ⟨hk.1.1.1.1.1.1.1.2, ⟨hk.1.1.1.1.1.1.2, ⟨hk.1.1.1.1.1.2, ⟨hk.1.1.1.1.1.1.1.1.1.1.1.1, ⟨hk.1.1.1.1.2, hk.1.1.1.2⟩⟩⟩⟩⟩⟩⟩⟩⟩))⟩, ⟨rT (Kd.R_mono HO472.out (fun _ hk => ⟨hk.1.1.1.1.1.1.1.1.1.1.1.2, ⟨hk.1.1.1.1.1.1.1.1.1.1.2, ⟨hk.1.1.1.1.1.1.1.1.1.2, ⟨hk.1.1.1.1.1.1.1.1.2, ⟨hk.1.1.1.1.1.1.1.2, ⟨hk.1.1.1.1.1.1.2, ⟨hk.1.1.1.1.1.2, ⟨hk.1.1.1.1.1.1.1.1.1.1.1.1, ⟨hk.1.1.1.1.2, hk.1.1.1.2⟩⟩⟩⟩⟩⟩⟩⟩⟩))⟩, ⟨rT (Kd.R_mono HO477.out (fun _ hk => ⟨hk.1.1.1.1.1.1.1.1.1.1.1.2, ⟨hk.1.1.1.1.1.1.1.1.1.1.2, ⟨hk.1.1.1.1.1.1.1.1.1.2, ⟨hk.1.1.1.1.1.1.1.1.2, ⟨hk.1.1.1.1.1.1.1.2, ⟨hk.1.1.1.1.1.1.2, ⟨hk.1.1.1.1.1.2, ⟨hk.1.1.1.1.2, ⟨hk.1.1.1.2, hk.1.1.1.1.1.1.1.1.1.1.1.1⟩⟩⟩⟩⟩⟩⟩⟩⟩))⟩, ⟨rT (Kd.R_mono HO480.out (fun _ hk => ⟨hk.1.1.1.1.1.1.1.1.1.1.1.2, ⟨hk.1.1.1.1.1.1.1.1.1.1.2, ⟨hk.1.1.1.1.1.1.1.1.1.2, ⟨hk.1.1.1.1.1.1.1.1.2, ⟨hk.1.1.1.1.1.1.1.2, ⟨hk.1.1.1.1.1.1.2, ⟨hk.1.1.1.1.1.2, ⟨hk.1.1.1.1.2, ⟨hk.1.1.1.2, hk.1.1.1.1.1.1.1.1.1.1.1.1⟩⟩⟩⟩⟩⟩⟩⟩⟩))⟩, ⟨kP BK430⟩, ⟨kP BK450⟩, ⟨kP BK458⟩, ⟨kP BK466⟩, ⟨kP BK474⟩, ⟨kP BK482⟩, ⟨bP HB⟩⟩
        clear HC44
        try clear c1
        try clear p2
        try clear p6
        try clear c9
        try clear c10
        try clear c15
        try clear p64
        try clear c94
        try clear c95
        try clear c96
        try clear c97
        try clear c98
        try clear c99
        try clear c100
        try clear c100b0
        try clear c100b1
        try clear c101
        try clear c102
        try clear c103
        try clear c104
        try clear c104b0
        try clear c104b1
        try clear c106
        as_aux_lemma =>
        obtain ⟨kq, x193_43, rfl, HA, HJ43, HO_9, HO_451000, HO_451001, HO_459000, HO_459001, HO_467000, HO_467001, HO_475000, HO_475001, HO_483000, HO_483001, BK430, BK450, BK458, BK466, BK474, BK482, HB⟩ := hcut
        cases kq with
        | zero => exact absurd HA.out (by simp [laws_FnMapWhole.j2])
        | succ kj43 =>
         have H := HA.out
         clear HA
         simp only [laws_FnMapWhole.j2] at H
         by_cases c115 : x193_43 = true
         ·subst c115
          rw [if_pos rfl] at H
          exact absurd ((Option.some.inj H).trans hr_.out) (by decide)
         replace c115 := Bool.eq_false_iff.mpr c115
         subst c115
         rw [iF] at H
         have HC116 := Aside0.mk H
         clear H
         as_aux_lemma =>
         go_upto_region 20 with (fail)
         go_cut [219] (fun v219 wc => ∃ (kq : Nat) (x219_115 : Bool), v219 = .bool x219_115 ∧ Aside0 (laws_FnMapWhole.j3 kq l0 l2 t432 t465 x219_115 l0 l1 t459 t462 = some r) ∧ Aside0 (kq ≤ kj43) ∧ Aside0 (Kd.R (Kd.int .i64) 3 wc w.heap.size (fun k_ => oN k_ Ao48 t443 co48 ∧ oN k_ Ao51 t446 co51 ∧ oN k_ Ao55 t451 co55 ∧ oN k_ Ao59 t454 co59 ∧ oN k_ Ao63 t459 co63 ∧ oN k_ Ao68 t462 co68 ∧ oN k_ Ao72 t467 co72 ∧ oN k_ Ao78 t470 co78 ∧ oN k_ Ao82 t475 co82 ∧ oN k_ Ao89 t478 co89) v433 t432) ∧ Aside0 (Kd.R (Kd.int .i64) 3 wc w.heap.size (fun k_ => some k_ ≠ (v433 : Value).ownBlock ∧ oN k_ Ao51 t446 co51 ∧ oN k_ Ao55 t451 co55 ∧ oN k_ Ao59 t454 co59 ∧ oN k_ Ao63 t459 co63 ∧ oN k_ Ao68 t462 co68 ∧ oN k_ Ao72 t467 co72 ∧ oN k_ Ao78 t470 co78 ∧ oN k_ Ao82 t475 co82 ∧ oN k_ Ao89 t478 co89) (.slice Ao48 t443.length co48) t443) ∧ Aside0 (Kd.R (Kd.int .i64) 3 wc w.heap.size (fun k_ => some k_ ≠ (v433 : Value).ownBlock ∧ oN k_ Ao48 t443 co48 ∧ oN k_ Ao55 t451 co55 ∧ oN k_ Ao59 t454 co59 ∧ oN k_ Ao63 t459 co63 ∧ oN k_ Ao68 t462 co68 ∧ oN k_ Ao72 t467 co72 ∧ oN k_ Ao78 t470 co78 ∧ oN k_ Ao82 t475 co82 ∧ oN k_ Ao89 t478 co89) (.slice Ao51 t446.length co51) t446) ∧ Aside0 (Kd.R (Kd.int .i64) 3 wc w.heap.size (fun k_ => some k_ ≠ (v433 : Value).ownBlock ∧ oN k_ Ao48 t443 co48 ∧ oN k_ Ao51 t446 co51 ∧ oN k_ Ao59 t454 co59 ∧ oN k_ Ao63 t459 co63 ∧ oN k_ Ao68 t462 co68 ∧ oN k_ Ao72 t467 co72 ∧ oN k_ Ao78 t470 co78 ∧ oN k_ Ao82 t475 co82 ∧ oN k_ Ao89 t478 co89) (.slice Ao55 t451.length co55) t451) ∧ Aside0 (Kd.R (Kd.int .i64) 3 wc w.heap.size (fun k_ => some k_ ≠ (v433 : Value).ownBlock ∧ oN k_ Ao48 t443 co48 ∧ oN k_ Ao51 t446 co51 ∧ oN k_ Ao55 t451 co55 ∧ oN k_ Ao63 t459 co63 ∧ oN k_ Ao68 t462 co68 ∧ oN k_ Ao72 t467 co72 ∧ oN k_ Ao78 t470 co78 ∧ oN k_ Ao82 t475 co82 ∧ oN k_ Ao89 t478 co89) (.slice Ao59 t454.length co59) t454) ∧ Aside0 (Kd.R (Kd.int .i64) 3 wc w.heap.size (fun k_ => some k_ ≠ (v433 : Value).ownBlock ∧ oN k_ Ao48 t443 co48 ∧ oN k_ Ao51 t446 co51 ∧ oN k_ Ao55 t451 co55 ∧ oN k_ Ao59 t454 co59 ∧ oN k_ Ao68 t462 co68 ∧ oN k_ Ao72 t467 co72 ∧ oN k_ Ao78 t470 co78 ∧ oN k_ Ao82 t475 co82 ∧ oN k_ Ao89 t478 co89) (.slice Ao63 t459.length co63) t459) ∧ Aside0 (Kd.R (Kd.int .i64) 3 wc w.heap.size (fun k_ => some k_ ≠ (v433 : Value).ownBlock ∧ oN k_ Ao48 t443 co48 ∧ oN k_ Ao51 t446 co51 ∧ oN k_ Ao55 t451 co55 ∧ oN k_ Ao59 t454 co59 ∧ oN k_ Ao63 t459 co63 ∧ oN k_ Ao72 t467 co72 ∧ oN k_ Ao78 t470 co78 ∧ oN k_ Ao82 t475 co82 ∧ oN k_ Ao89 t478 co89) (.slice Ao68 t462.length co68) t462) ∧ Aside0 (Kd.R (Kd.int .i64) 3 wc w.heap.size (fun k_ => some k_ ≠ (v433 : Value).ownBlock ∧ oN k_ Ao48 t443 co48 ∧ oN k_ Ao51 t446 co51 ∧ oN k_ Ao55 t451 co55 ∧ oN k_ Ao59 t454 co59 ∧ oN k_ Ao63 t459 co63 ∧ oN k_ Ao68 t462 co68 ∧ oN k_ Ao78 t470 co78 ∧ oN k_ Ao82 t475 co82 ∧ oN k_ Ao89 t478 co89) (.slice Ao72 t467.length co72) t467) ∧ Aside0 (Kd.R (Kd.int .i64) 3 wc w.heap.size (fun k_ => some k_ ≠ (v433 : Value).ownBlock ∧ oN k_ Ao48 t443 co48 ∧ oN k_ Ao51 t446 co51 ∧ oN k_ Ao55 t451 co55 ∧ oN k_ Ao59 t454 co59 ∧ oN k_ Ao63 t459 co63 ∧ oN k_ Ao68 t462 co68 ∧ oN k_ Ao72 t467 co72 ∧ oN k_ Ao82 t475 co82 ∧ oN k_ Ao89 t478 co89) (.slice Ao78 t470.length co78) t470) ∧ Aside0 (Kd.R (Kd.int .i64) 3 wc w.heap.size (fun k_ => some k_ ≠ (v433 : Value).ownBlock ∧ oN k_ Ao48 t443 co48 ∧ oN k_ Ao51 t446 co51 ∧ oN k_ Ao55 t451 co55 ∧ oN k_ Ao59 t454 co59 ∧ oN k_ Ao63 t459 co63 ∧ oN k_ Ao68 t462 co68 ∧ oN k_ Ao72 t467 co72 ∧ oN k_ Ao78 t470 co78 ∧ oN k_ Ao89 t478 co89) (.slice Ao82 t475.length co82) t475) ∧ Aside0 (Kd.R (Kd.int .i64) 3 wc w.heap.size (fun k_ => some k_ ≠ (v433 : Value).ownBlock ∧ oN k_ Ao48 t443 co48 ∧ oN k_ Ao51 t446 co51 ∧ oN k_ Ao55 t451 co55 ∧ oN k_ Ao59 t454 co59 ∧ oN k_ Ao63 t459 co63 ∧ oN k_ Ao68 t462 co68 ∧ oN k_ Ao72 t467 co72 ∧ oN k_ Ao78 t470 co78 ∧ oN k_ Ao82 t475 co82) (.slice Ao89 t478.length co89) t478) ∧ Aside0 (wc.heap[gb430]? = some (.cells #[(.slice A0 l0.length c0), (.slice A1 l1.length c1)] 24 (0, 0))) ∧ Aside0 (wc.heap[gb450]? = some (.cells #[(.slice Ao48 t443.length co48), (.slice Ao51 t446.length co51)] 24 (0, 0))) ∧ Aside0 (wc.heap[gb458]? = some (.cells #[(.slice Ao55 t451.length co55), (.slice Ao59 t454.length co59)] 24 (0, 0))) ∧ Aside0 (wc.heap[gb466]? = some (.cells #[(.slice Ao63 t459.length co63), (.slice Ao68 t462.length co68)] 24 (0, 0))) ∧ Aside0 (wc.heap[gb474]? = some (.cells #[(.slice Ao72 t467.length co72), (.slice Ao78 t470.length co78)] 24 (0, 0))) ∧ Aside0 (wc.heap[gb482]? = some (.cells #[(.slice Ao82 t475.length co82), (.slice Ao89 t478.length co89)] 24 (0, 0))) ∧ Aside0 (Below w.heap.size w wc))
         case first =>
          have H := HC116.out
          clear HC116
          obtain ⟨t502, A1170, H⟩ := Option.bind_eq_some_iff.mp H
          have A117 := Aside0.mk A1170
          clear A1170
          by_cases c118 : t502 = true
          case neg =>
           replace c118 := Bool.eq_false_iff.mpr c118
           subst c118
           rw [iF] at H
           exact (laws_FnMapWhole.j3_no _ _ _ _ _ _ _ _ _ (H.trans (congrArg some hr_.out))).elim
          subst c118
          rw [if_pos rfl] at H
          obtain ⟨t503, A1190, H⟩ := Option.bind_eq_some_iff.mp H
          have A119 := Aside0.mk A1190
          clear A1190
          by_cases c120 : t503 = true
          case neg =>
           replace c120 := Bool.eq_false_iff.mpr c120
           subst c120
           rw [iF] at H
           exact (laws_FnMapWhole.j3_no _ _ _ _ _ _ _ _ _ (H.trans (congrArg some hr_.out))).elim
          subst c120
          rw [if_pos rfl] at H
          obtain ⟨t504, A1210, H⟩ := Option.bind_eq_some_iff.mp H
          have A121 := Aside0.mk A1210
          clear A1210
          as_aux_lemma =>
          by_cases c122 : t504 = true
          case neg =>
           replace c122 := Bool.eq_false_iff.mpr c122
           subst c122
           rw [iF] at H
           exact (laws_FnMapWhole.j3_no _ _ _ _ _ _ _ _ _ (H.trans (congrArg some hr_.out))).elim
          subst c122
          rw [if_pos rfl] at H
          obtain ⟨t505, A1230, H⟩ := Option.bind_eq_some_iff.mp H
          have A123 := Aside0.mk A1230
          clear A1230
          have H' := Aside0.mk H
          clear H
          have hnb124 := NB474_430.out
          have hnc124 := NB430_474.out
          have hnb125 := NB474_450.out
          have hnc125 := NB450_474.out
          have hnb126 := NB474_458.out
          have hnc126 := NB458_474.out
          have hnb127 := NB474_466.out
          have hnc127 := NB466_474.out
          have hnb128 := NB474_482.out
          have hnc128 := NB482_474.out
          have hcz129_0 := zc0 BK474
          have hcz129_1 := zc1 BK474
          have hfz129_0 := blk_frozen BK474.out 0
          have hfz129_1 := blk_frozen BK474.out 1
          go_wp2_with (first | ((with_reducible refine gate_callee (f := 15) rfl ?_); refine gL (some 197) Try.func15 #[.slice Ao72 t467.length co72, .slice A0 l0.length c0] ?_; (with_reducible refine (laws_sameInts.calls kj43 _ _ t467 _ _ l0 true _ ?side1 ?side2 ?side3 ?side4 A117.out).mono ?_); (case side1 => exact cP (Kd.R_reads' HO_475000.out).2.2); (case side2 => exact (Kd.R_reads' HO_475000.out).2.1); (case side3 => exact cB HR0 HB); (case side4 => exact HC0.out); rintro e w' ⟨rfl, ⟨nd, rfl⟩⟩; refine ⟨_, rfl, ?_⟩) | (go_at_call 15; (with_reducible refine (laws_sameInts.calls kj43 _ _ t470 _ _ l1 true _ ?side1 ?side2 ?side3 ?side4 A119.out).mono ?_); (case side1 => exact cP (Kd.R_reads' HO_475001.out).2.2); (case side2 => exact (Kd.R_reads' HO_475001.out).2.1); (case side3 => exact cP (Kd.C_below HR1.out (bP HB))); (case side4 => exact HC1.out); rintro e w' ⟨rfl, ⟨nd, rfl⟩⟩; have hnb130 := NB482_430.out; have hnc130 := NB430_482.out; have hnb131 := NB482_450.out; have hnc131 := NB450_482.out; have hnb132 := NB482_458.out; have hnc132 := NB458_482.out; have hnb133 := NB482_466.out; have hnc133 := NB466_482.out; have hcz134_0 := zc0 BK482; have hcz134_1 := zc1 BK482; have hfz134_0 := blk_frozen BK482.out 0; have hfz134_1 := blk_frozen BK482.out 1) | (go_at_call 15; (with_reducible refine (laws_sameInts.calls kj43 _ _ t475 _ _ l0 true _ ?side1 ?side2 ?side3 ?side4 A121.out).mono ?_); (case side1 => exact cP (Kd.R_reads' HO_483000.out).2.2); (case side2 => exact (Kd.R_reads' HO_483000.out).2.1); (case side3 => exact cP (Kd.C_below HR0.out (bP HB))); (case side4 => exact HC0.out); rintro e w' ⟨rfl, ⟨nd, rfl⟩⟩) | (go_at_call 15; (with_reducible refine (laws_sameInts.calls kj43 _ _ t478 _ _ l1 t505 _ ?side1 ?side2 ?side3 ?side4 A123.out).mono ?_); (case side1 => exact cP (Kd.R_reads' HO_483001.out).2.2); (case side2 => exact (Kd.R_reads' HO_483001.out).2.1); (case side3 => exact cP (Kd.C_below HR1.out (bP HB))); (case side4 => exact HC1.out); rintro e w' ⟨rfl, ⟨nd, rfl⟩⟩))
          go_meet
          case rel => exact ⟨_, (!t505), eS, H', ⟨by have := HJ3.out; have := HJ10.out; have := HJ43.out; first | omega | exact Nat.le_refl _⟩, ⟨rP HO_9⟩, ⟨rP HO_451000⟩, ⟨rP HO_451001⟩, ⟨rP HO_459000⟩, ⟨rP HO_459001⟩, ⟨rP HO_467000⟩, ⟨rP HO_467001⟩, ⟨rP HO_475000⟩, ⟨rP HO_475001⟩, ⟨rP HO_483000⟩, ⟨rP HO_483001⟩, ⟨kP BK430⟩, ⟨kP BK450⟩, ⟨kP BK458⟩, ⟨kP BK466⟩, ⟨kP BK474⟩, ⟨kP BK482⟩, ⟨bP HB⟩⟩
         clear HC116
         try clear c1
         try clear p2
         try clear p6
         try clear c9
         try clear c10
         try clear c11
         try clear c12
         try clear c13
         try clear c15
         try clear p64
         try clear c94
         try clear c95
         try clear c96
         try clear c97
         try clear c98
         try clear c99
         try clear c100
         try clear c100b0
         try clear c100b1
         try clear c101
         try clear c102
         try clear c103
         try clear c104
         try clear c104b0
         try clear c104b1
         try clear c106
         try clear c115
         try clear c118
         try clear c120
         try clear c122
         try clear c124
         try clear c125
         try clear c126
         try clear c127
         try clear c128
         try clear c130
         try clear c131
         try clear c132
         try clear c133
         try clear hcz129_0
         try clear hcz129_1
         try clear hcz134_0
         try clear hcz134_1
         try clear hfz129_0
         try clear hfz129_1
         try clear hfz134_0
         try clear hfz134_1
         try clear p2
         try clear p6
         try clear p64
         as_aux_lemma =>
         obtain ⟨kq, x219_115, rfl, HA, HJ115, HO_9, HO_451000, HO_451001, HO_459000, HO_459001, HO_467000, HO_467001, HO_475000, HO_475001, HO_483000, HO_483001, BK430, BK450, BK458, BK466, BK474, BK482, HB⟩ := hcut
         cases kq with
         | zero => exact absurd HA.out (by simp [laws_FnMapWhole.j3])
         | succ kj115 =>
          have H := HA.out
          clear HA
          simp only [laws_FnMapWhole.j3] at H
          by_cases c135 : x219_115 = true
          ·subst c135
           rw [if_pos rfl] at H
           exact absurd ((Option.some.inj H).trans hr_.out) (by decide)
          replace c135 := Bool.eq_false_iff.mpr c135
          subst c135
          rw [iF] at H
          have HC136 := Aside0.mk H
          clear H
          as_aux_lemma =>
          go_upto_region 22 with (fail)
          go_cut [230] (fun v230 wc => ∃ (kq : Nat) (x230_135 : Bool), v230 = .bool x230_135 ∧ Aside0 (laws_FnMapWhole.j4 kq t432 t465 x230_135 l0 l1 t459 t462 = some r) ∧ Aside0 (kq ≤ kj115) ∧ Aside0 (Kd.R (Kd.int .i64) 3 wc w.heap.size (fun k_ => oN k_ Ao48 t443 co48 ∧ oN k_ Ao51 t446 co51 ∧ oN k_ Ao55 t451 co55 ∧ oN k_ Ao59 t454 co59 ∧ oN k_ Ao63 t459 co63 ∧ oN k_ Ao68 t462 co68 ∧ oN k_ Ao72 t467 co72 ∧ oN k_ Ao78 t470 co78 ∧ oN k_ Ao82 t475 co82 ∧ oN k_ Ao89 t478 co89) v433 t432) ∧ Aside0 (Kd.R (Kd.int .i64) 3 wc w.heap.size (fun k_ => some k_ ≠ (v433 : Value).ownBlock ∧ oN k_ Ao51 t446 co51 ∧ oN k_ Ao55 t451 co55 ∧ oN k_ Ao59 t454 co59 ∧ oN k_ Ao63 t459 co63 ∧ oN k_ Ao68 t462 co68 ∧ oN k_ Ao72 t467 co72 ∧ oN k_ Ao78 t470 co78 ∧ oN k_ Ao82 t475 co82 ∧ oN k_ Ao89 t478 co89) (.slice Ao48 t443.length co48) t443) ∧ Aside0 (Kd.R (Kd.int .i64) 3 wc w.heap.size (fun k_ => some k_ ≠ (v433 : Value).ownBlock ∧ oN k_ Ao48 t443 co48 ∧ oN k_ Ao55 t451 co55 ∧ oN k_ Ao59 t454 co59 ∧ oN k_ Ao63 t459 co63 ∧ oN k_ Ao68 t462 co68 ∧ oN k_ Ao72 t467 co72 ∧ oN k_ Ao78 t470 co78 ∧ oN k_ Ao82 t475 co82 ∧ oN k_ Ao89 t478 co89) (.slice Ao51 t446.length co51) t446) ∧ Aside0 (Kd.R (Kd.int .i64) 3 wc w.heap.size (fun k_ => some k_ ≠ (v433 : Value).ownBlock ∧ oN k_ Ao48 t443 co48 ∧ oN k_ Ao51 t446 co51 ∧ oN k_ Ao59 t454 co59 ∧ oN k_ Ao63 t459 co63 ∧ oN k_ Ao68 t462 co68 ∧ oN k_ Ao72 t467 co72 ∧ oN k_ Ao78 t470 co78 ∧ oN k_ Ao82 t475 co82 ∧ oN k_ Ao89 t478 co89) (.slice Ao55 t451.length co55) t451) ∧ Aside0 (Kd.R (Kd.int .i64) 3 wc w.heap.size (fun k_ => some k_ ≠ (v433 : Value).ownBlock ∧ oN k_ Ao48 t443 co48 ∧ oN k_ Ao51 t446 co51 ∧ oN k_ Ao55 t451 co55 ∧ oN k_ Ao63 t459 co63 ∧ oN k_ Ao68 t462 co68 ∧ oN k_ Ao72 t467 co72 ∧ oN k_ Ao78 t470 co78 ∧ oN k_ Ao82 t475 co82 ∧ oN k_ Ao89 t478 co89) (.slice Ao59 t454.length co59) t454) ∧ Aside0 (Kd.R (Kd.int .i64) 3 wc w.heap.size (fun k_ => some k_ ≠ (v433 : Value).ownBlock ∧ oN k_ Ao48 t443 co48 ∧ oN k_ Ao51 t446 co51 ∧ oN k_ Ao55 t451 co55 ∧ oN k_ Ao59 t454 co59 ∧ oN k_ Ao68 t462 co68 ∧ oN k_ Ao72 t467 co72 ∧ oN k_ Ao78 t470 co78 ∧ oN k_ Ao82 t475 co82 ∧ oN k_ Ao89 t478 co89) (.slice Ao63 t459.length co63) t459) ∧ Aside0 (Kd.R (Kd.int .i64) 3 wc w.heap.size (fun k_ => some k_ ≠ (v433 : Value).ownBlock ∧ oN k_ Ao48 t443 co48 ∧ oN k_ Ao51 t446 co51 ∧ oN k_ Ao55 t451 co55 ∧ oN k_ Ao59 t454 co59 ∧ oN k_ Ao63 t459 co63 ∧ oN k_ Ao72 t467 co72 ∧ oN k_ Ao78 t470 co78 ∧ oN k_ Ao82 t475 co82 ∧ oN k_ Ao89 t478 co89) (.slice Ao68 t462.length co68) t462) ∧ Aside0 (Kd.R (Kd.int .i64) 3 wc w.heap.size (fun k_ => some k_ ≠ (v433 : Value).ownBlock ∧ oN k_ Ao48 t443 co48 ∧ oN k_ Ao51 t446 co51 ∧ oN k_ Ao55 t451 co55 ∧ oN k_ Ao59 t454 co59 ∧ oN k_ Ao63 t459 co63 ∧ oN k_ Ao68 t462 co68 ∧ oN k_ Ao78 t470 co78 ∧ oN k_ Ao82 t475 co82 ∧ oN k_ Ao89 t478 co89) (.slice Ao72 t467.length co72) t467) ∧ Aside0 (Kd.R (Kd.int .i64) 3 wc w.heap.size (fun k_ => some k_ ≠ (v433 : Value).ownBlock ∧ oN k_ Ao48 t443 co48 ∧ oN k_ Ao51 t446 co51 ∧ oN k_ Ao55 t451 co55 ∧ oN k_ Ao59 t454 co59 ∧ oN k_ Ao63 t459 co63 ∧ oN k_ Ao68 t462 co68 ∧ oN k_ Ao72 t467 co72 ∧ oN k_ Ao82 t475 co82 ∧ oN k_ Ao89 t478 co89) (.slice Ao78 t470.length co78) t470) ∧ Aside0 (Kd.R (Kd.int .i64) 3 wc w.heap.size (fun k_ => some k_ ≠ (v433 : Value).ownBlock ∧ oN k_ Ao48 t443 co48 ∧ oN k_ Ao51 t446 co51 ∧ oN k_ Ao55 t451 co55 ∧ oN k_ Ao59 t454 co59 ∧ oN k_ Ao63 t459 co63 ∧ oN k_ Ao68 t462 co68 ∧ oN k_ Ao72 t467 co72 ∧ oN k_ Ao78 t470 co78 ∧ oN k_ Ao89 t478 co89) (.slice Ao82 t475.length co82) t475) ∧ Aside0 (Kd.R (Kd.int .i64) 3 wc w.heap.size (fun k_ => some k_ ≠ (v433 : Value).ownBlock ∧ oN k_ Ao48 t443 co48 ∧ oN k_ Ao51 t446 co51 ∧ oN k_ Ao55 t451 co55 ∧ oN k_ Ao59 t454 co59 ∧ oN k_ Ao63 t459 co63 ∧ oN k_ Ao68 t462 co68 ∧ oN k_ Ao72 t467 co72 ∧ oN k_ Ao78 t470 co78 ∧ oN k_ Ao82 t475 co82) (.slice Ao89 t478.length co89) t478) ∧ Aside0 (wc.heap[gb430]? = some (.cells #[(.slice A0 l0.length c0), (.slice A1 l1.length c1)] 24 (0, 0))) ∧ Aside0 (wc.heap[gb450]? = some (.cells #[(.slice Ao48 t443.length co48), (.slice Ao51 t446.length co51)] 24 (0, 0))) ∧ Aside0 (wc.heap[gb458]? = some (.cells #[(.slice Ao55 t451.length co55), (.slice Ao59 t454.length co59)] 24 (0, 0))) ∧ Aside0 (wc.heap[gb466]? = some (.cells #[(.slice Ao63 t459.length co63), (.slice Ao68 t462.length co68)] 24 (0, 0))) ∧ Aside0 (wc.heap[gb474]? = some (.cells #[(.slice Ao72 t467.length co72), (.slice Ao78 t470.length co78)] 24 (0, 0))) ∧ Aside0 (wc.heap[gb482]? = some (.cells #[(.slice Ao82 t475.length co82), (.slice Ao89 t478.length co89)] 24 (0, 0))) ∧ Aside0 (Below w.heap.size w wc))
          case first =>
           have H := HC136.out
           clear HC136
           obtain ⟨t506, A1370, H⟩ := Option.bind_eq_some_iff.mp H
           have A137 := Aside0.mk A1370
           clear A1370
           by_cases c138 : t506 = true
           ·subst c138
            rw [if_pos rfl] at H
            have H' := Aside0.mk H
            clear H
            go_wp2_with (first | ((with_reducible refine gate_callee (f := 11) rfl ?_); refine gL (some 222) Try.func11 #[.slice A2 l2.length c2] ?_; (with_reducible refine (impl_PermValid.calls _ _ l2 true _ ?side1 ?side2 A137.out).mono ?_); (case side1 => exact cB HR2 HB); (case side2 => exact HC2.out); rintro e w139 ⟨rfl, hb⟩; refine ⟨_, rfl, ?_⟩; replace HO_9 := rB HO_9 hb; replace HO_451000 := rB HO_451000 hb; replace HO_451001 := rB HO_451001 hb; replace HO_459000 := rB HO_459000 hb; replace HO_459001 := rB HO_459001 hb; replace HO_467000 := rB HO_467000 hb; replace HO_467001 := rB HO_467001 hb; replace HO_475000 := rB HO_475000 hb; replace HO_475001 := rB HO_475001 hb; replace HO_483000 := rB HO_483000 hb; replace HO_483001 := rB HO_483001 hb; replace BK430 := kB BK430 hb; replace BK450 := kB BK450 hb; replace BK458 := kB BK458 hb; replace BK466 := kB BK466 hb; replace BK474 := kB BK474 hb; replace BK482 := kB BK482 hb; replace HB := bS HB hb; (try clear hb); (try clear hb2); (try clear hk); (try clear hi)))
            go_meet
            case rel => exact ⟨_, ((t465 != ((l2.length : Int) == (l0.length : Int)))), eS, H', ⟨by have := HJ3.out; have := HJ10.out; have := HJ43.out; have := HJ115.out; first | omega | exact Nat.le_refl _⟩, ⟨rP HO_9⟩, ⟨rP HO_451000⟩, ⟨rP HO_451001⟩, ⟨rP HO_459000⟩, ⟨rP HO_459001⟩, ⟨rP HO_467000⟩, ⟨rP HO_467001⟩, ⟨rP HO_475000⟩, ⟨rP HO_475001⟩, ⟨rP HO_483000⟩, ⟨rP HO_483001⟩, ⟨kP BK430⟩, ⟨kP BK450⟩, ⟨kP BK458⟩, ⟨kP BK466⟩, ⟨kP BK474⟩, ⟨kP BK482⟩, ⟨bP HB⟩⟩
           replace c138 := Bool.eq_false_iff.mpr c138
           subst c138
           rw [iF] at H
           have H' := Aside0.mk H
           clear H
           go_wp2_with (first | ((with_reducible refine gate_callee (f := 11) rfl ?_); refine gL (some 222) Try.func11 #[.slice A2 l2.length c2] ?_; (with_reducible refine (impl_PermValid.calls _ _ l2 false _ ?side1 ?side2 A137.out).mono ?_); (case side1 => exact cB HR2 HB); (case side2 => exact HC2.out); rintro e w140 ⟨rfl, hb⟩; refine ⟨_, rfl, ?_⟩; replace HO_9 := rB HO_9 hb; replace HO_451000 := rB HO_451000 hb; replace HO_451001 := rB HO_451001 hb; replace HO_459000 := rB HO_459000 hb; replace HO_459001 := rB HO_459001 hb; replace HO_467000 := rB HO_467000 hb; replace HO_467001 := rB HO_467001 hb; replace HO_475000 := rB HO_475000 hb; replace HO_475001 := rB HO_475001 hb; replace HO_483000 := rB HO_483000 hb; replace HO_483001 := rB HO_483001 hb; replace BK430 := kB BK430 hb; replace BK450 := kB BK450 hb; replace BK458 := kB BK458 hb; replace BK466 := kB BK466 hb; replace BK474 := kB BK474 hb; replace BK482 := kB BK482 hb; replace HB := bS HB hb; (try clear hb); (try clear hb2); (try clear hk); (try clear hi)))
           go_meet
           case rel => exact ⟨_, ((t465 != false)), eS, H', ⟨by have := HJ3.out; have := HJ10.out; have := HJ43.out; have := HJ115.out; first | omega | exact Nat.le_refl _⟩, ⟨rP HO_9⟩, ⟨rP HO_451000⟩, ⟨rP HO_451001⟩, ⟨rP HO_459000⟩, ⟨rP HO_459001⟩, ⟨rP HO_467000⟩, ⟨rP HO_467001⟩, ⟨rP HO_475000⟩, ⟨rP HO_475001⟩, ⟨rP HO_483000⟩, ⟨rP HO_483001⟩, ⟨kP BK430⟩, ⟨kP BK450⟩, ⟨kP BK458⟩, ⟨kP BK466⟩, ⟨kP BK474⟩, ⟨kP BK482⟩, ⟨bP HB⟩⟩
          clear HC136
          try clear c1
          try clear c2
          try clear p2
          try clear p6
          try clear c9
          try clear c10
          try clear c11
          try clear c12
          try clear c13
          try clear c15
          try clear p64
          try clear c94
          try clear c95
          try clear c96
          try clear c97
          try clear c98
          try clear c99
          try clear c100
          try clear c100b0
          try clear c100b1
          try clear c101
          try clear c102
          try clear c103
          try clear c104
          try clear c104b0
          try clear c104b1
          try clear c106
          try clear c115
          try clear c118
          try clear c120
          try clear c122
          try clear c124
          try clear c125
          try clear c126
          try clear c127
          try clear c128
          try clear c130
          try clear c131
          try clear c132
          try clear c133
          try clear c135
          try clear c138
          try clear hcz129_0
          try clear hcz129_1
          try clear hcz134_0
          try clear hcz134_1
          try clear hfz129_0
          try clear hfz129_1
          try clear hfz134_0
          try clear hfz134_1
          try clear p2
          try clear p6
          try clear p64
          as_aux_lemma =>
          obtain ⟨kq, x230_135, rfl, HA, HJ135, HO_9, HO_451000, HO_451001, HO_459000, HO_459001, HO_467000, HO_467001, HO_475000, HO_475001, HO_483000, HO_483001, BK430, BK450, BK458, BK466, BK474, BK482, HB⟩ := hcut
          cases kq with
          | zero => exact absurd HA.out (by simp [laws_FnMapWhole.j4])
          | succ kj135 =>
           have H := HA.out
           clear HA
           simp only [laws_FnMapWhole.j4] at H
           by_cases c141 : x230_135 = true
           ·subst c141
            rw [if_pos rfl] at H
            exact absurd ((Option.some.inj H).trans hr_.out) (by decide)
           replace c141 := Bool.eq_false_iff.mpr c141
           subst c141
           rw [iF] at H
           by_cases c142 : t465 = true
           case neg =>
            replace c142 := Bool.eq_false_iff.mpr c142
            subst c142
            rw [iF] at H
            obtain rfl := Option.some.inj H
            go_wp2
            go_ret
            exact ⟨eR, bP HB⟩
           subst c142
           rw [if_pos rfl] at H
           obtain ⟨⟨t507, t510⟩, A1430, H⟩ := Option.bind_eq_some_iff.mp H
           dsimp only at H
           have A143 := Aside0.mk A1430
           clear A1430
           obtain ⟨⟨t511, t514, t517⟩, A1440, H⟩ := Option.bind_eq_some_iff.mp H
           dsimp only at H
           as_aux_lemma =>
           have A144 := Aside0.mk A1440
           clear A1440
           obtain ⟨⟨t519, t522, t525⟩, A1450, H⟩ := Option.bind_eq_some_iff.mp H
           dsimp only at H
           have A145 := Aside0.mk A1450
           clear A1450
           by_cases c146 : t510 = true
           case neg =>
            replace c146 := Bool.eq_false_iff.mpr c146
            subst c146
            rw [iF] at H
            exact absurd ((Option.some.inj H).trans hr_.out) (by decide)
           subst c146
           rw [if_pos rfl] at H
           by_cases c147 : t517 = true
           case neg =>
            replace c147 := Bool.eq_false_iff.mpr c147
            subst c147
            rw [iF] at H
            exact absurd ((Option.some.inj H).trans hr_.out) (by decide)
           subst c147
           rw [if_pos rfl] at H
           by_cases c148 : t525 = true
           case neg =>
            replace c148 := Bool.eq_false_iff.mpr c148
            subst c148
            rw [iF] at H
            exact absurd ((Option.some.inj H).trans hr_.out) (by decide)
           subst c148
           rw [if_pos rfl] at H
           as_aux_lemma =>
           obtain ⟨t527, A1490, H⟩ := Option.bind_eq_some_iff.mp H
           have A149 := Aside0.mk A1490
           clear A1490
           by_cases c150 : t527 = true
           case neg =>
            replace c150 := Bool.eq_false_iff.mpr c150
            subst c150
            rw [iF] at H
            exact absurd ((Option.some.inj H).trans hr_.out) (by decide)
           subst c150
           rw [if_pos rfl] at H
           obtain ⟨t528, A1510, H⟩ := Option.bind_eq_some_iff.mp H
           have A151 := Aside0.mk A1510
           clear A1510
           by_cases c152 : t528 = true
           case neg =>
            replace c152 := Bool.eq_false_iff.mpr c152
            subst c152
            rw [iF] at H
            exact absurd ((Option.some.inj H).trans hr_.out) (by decide)
           subst c152
           rw [if_pos rfl] at H
           obtain ⟨t529, A1530, H⟩ := Option.bind_eq_some_iff.mp H
           have A153 := Aside0.mk A1530
           clear A1530
           obtain ⟨t530, A1540, H⟩ := Option.bind_eq_some_iff.mp H
           have A154 := Aside0.mk A1540
           clear A1540
           by_cases c155 : t529 = t530
           case neg =>
            rw [if_neg c155] at H
            as_aux_lemma =>
            have c155b0 : (t529 == t530) = false := beq_eq_false_iff_ne.mpr c155
            have c155b1 : (t529 != t530) = true := bne_iff_ne.mpr c155
            exact absurd ((Option.some.inj H).trans hr_.out) (by decide)
           rw [if_pos c155] at H
           have c155b0 : (t529 == t530) = true := beq_iff_eq.mpr c155
           have c155b1 : (t529 != t530) = false := bne_eq_false_iff_eq.mpr c155
           clear c155
           obtain ⟨t531, A1560, H⟩ := Option.bind_eq_some_iff.mp H
           have A156 := Aside0.mk A1560
           clear A1560
           by_cases c157 : t531 = true
           case neg =>
            replace c157 := Bool.eq_false_iff.mpr c157
            subst c157
            rw [iF] at H
            exact absurd ((Option.some.inj H).trans hr_.out) (by decide)
           subst c157
           rw [if_pos rfl] at H
           obtain ⟨t532, A1580, H⟩ := Option.bind_eq_some_iff.mp H
           have A158 := Aside0.mk A1580
           clear A1580
           obtain rfl := Option.some.inj H
           have hnb159 := NB466_430.out
           have hnc159 := NB430_466.out
           have hnb160 := NB466_450.out
           have hnc160 := NB450_466.out
           have hnb161 := NB466_458.out
           have hnc161 := NB458_466.out
           have hnb162 := NB466_474.out
           have hnc162 := NB474_466.out
           as_aux_lemma =>
           have hnb163 := NB466_482.out
           have hnc163 := NB482_466.out
           have hcz164_0 := zc0 BK466
           have hcz164_1 := zc1 BK466
           have hfz164_0 := blk_frozen BK466.out 0
           have hfz164_1 := blk_frozen BK466.out 1
           try go_wp2_with (first | ((with_reducible refine gate_callee (f := 7) rfl ?_); refine gL (some 235) Try.func7 #[.agg #[.slice Ao63 t459.length co63, .slice Ao68 t462.length co68]] ?_; (with_reducible refine (impl_MapCounts.calls kj135 _ _ t459 _ _ t462 t507 true _ ?side1 ?side2 ?side3 ?side4 A143.out).mono ?_); (case side1 => exact cP (Kd.R_reads' HO_467000.out).2.2); (case side2 => exact (Kd.R_reads' HO_467000.out).2.1); (case side3 => exact cP (Kd.R_reads' HO_467001.out).2.2); (case side4 => exact (Kd.R_reads' HO_467001.out).2.1); rintro e w165 ⟨v508, rfl, ho0, hb⟩; refine ⟨_, rfl, ?_⟩; have HO509 := Aside0.mk (Kd.R_lower (Kd.R_new' (Kd.R_new' (Kd.R_new' (Kd.R_new' (Kd.R_new' (Kd.R_new' (Kd.R_new' (Kd.R_new' (Kd.R_new' (Kd.R_new' (Kd.R_new' ho0 (Kd.R_lt (rP HO_9))) (Kd.R_lt (rP HO_451000))) (Kd.R_lt (rP HO_451001))) (Kd.R_lt (rP HO_459000))) (Kd.R_lt (rP HO_459001))) (Kd.R_lt (rP HO_467000))) (Kd.R_lt (rP HO_467001))) (Kd.R_lt (rP HO_475000))) (Kd.R_lt (rP HO_475001))) (Kd.R_lt (rP HO_483000))) (Kd.R_lt (rP HO_483001))) (below_size (bP HB))); replace HO_9 := Aside0.mk (Kd.R_elder' (rP HO_9) (Kd.R_base ho0) hb); replace HO_451000 := Aside0.mk (Kd.R_elder' (rP HO_451000) (Kd.R_base ho0) hb); replace HO_451001 := Aside0.mk (Kd.R_elder' (rP HO_451001) (Kd.R_base ho0) hb); replace HO_459000 := Aside0.mk (Kd.R_elder' (rP HO_459000) (Kd.R_base ho0) hb); replace HO_459001 := Aside0.mk (Kd.R_elder' (rP HO_459001) (Kd.R_base ho0) hb); replace HO_467000 := Aside0.mk (Kd.R_elder' (rP HO_467000) (Kd.R_base ho0) hb); replace HO_467001 := Aside0.mk (Kd.R_elder' (rP HO_467001) (Kd.R_base ho0) hb); replace HO_475000 := Aside0.mk (Kd.R_elder' (rP HO_475000) (Kd.R_base ho0) hb); replace HO_475001 := Aside0.mk (Kd.R_elder' (rP HO_475001) (Kd.R_base ho0) hb); replace HO_483000 := Aside0.mk (Kd.R_elder' (rP HO_483000) (Kd.R_base ho0) hb); replace HO_483001 := Aside0.mk (Kd.R_elder' (rP HO_483001) (Kd.R_base ho0) hb); replace BK430 := kB BK430 hb; replace BK450 := kB BK450 hb; replace BK458 := kB BK458 hb; replace BK466 := kB BK466 hb; replace BK474 := kB BK474 hb; replace BK482 := kB BK482 hb; replace HB := bS HB hb; (try clear hb); (try clear hb2); (try clear hk); (try clear hi); (try clear ho0); have hnb166 := NB430_450.out; have hnc166 := NB450_430.out; have hnb167 := NB430_458.out; have hnc167 := NB458_430.out; have hnb168 := NB430_474.out; have hnc168 := NB474_430.out; have hnb169 := NB430_482.out; have hnc169 := NB482_430.out; have hcz170_0 := zc0 BK430; have hcz170_1 := zc1 BK430; have hfz170_0 := blk_frozen BK430.out 0; have hfz170_1 := blk_frozen BK430.out 1) | ((with_reducible refine gate_callee (f := 16) rfl ?_); refine gL (some 240) Try.func16 #[.agg #[.slice A0 l0.length c0, .slice A1 l1.length c1]] ?_; (with_reducible refine (impl_MapLeast.calls kj135 _ _ l0 _ _ l1 t511 t514 true _ ?side1 ?side2 ?side3 ?side4 A144.out).mono ?_); (case side1 => exact cB HR0 HB); (case side2 => exact HC0.out); (case side3 => exact cB HR1 HB); (case side4 => exact HC1.out); rintro e w171 ⟨v512, v515, rfl, ho0, ho1, hb⟩; refine ⟨_, rfl, ?_⟩; have HO513 := Aside0.mk (Kd.R_lower (Kd.R_new' (Kd.R_new' (Kd.R_new' (Kd.R_new' (Kd.R_new' (Kd.R_new' (Kd.R_new' (Kd.R_new' (Kd.R_new' (Kd.R_new' (Kd.R_new' (Kd.R_new' ho0 (Kd.R_lt (rP HO_9))) (Kd.R_lt (rP HO_451000))) (Kd.R_lt (rP HO_451001))) (Kd.R_lt (rP HO_459000))) (Kd.R_lt (rP HO_459001))) (Kd.R_lt (rP HO_467000))) (Kd.R_lt (rP HO_467001))) (Kd.R_lt (rP HO_475000))) (Kd.R_lt (rP HO_475001))) (Kd.R_lt (rP HO_483000))) (Kd.R_lt (rP HO_483001))) (Kd.R_lt (rP HO509))) (below_size (bP HB))); have HO516 := Aside0.mk (Kd.R_lower (Kd.R_new' (Kd.R_new' (Kd.R_new' (Kd.R_new' (Kd.R_new' (Kd.R_new' (Kd.R_new' (Kd.R_new' (Kd.R_new' (Kd.R_new' (Kd.R_new' (Kd.R_new' ho1 (Kd.R_lt (rP HO_9))) (Kd.R_lt (rP HO_451000))) (Kd.R_lt (rP HO_451001))) (Kd.R_lt (rP HO_459000))) (Kd.R_lt (rP HO_459001))) (Kd.R_lt (rP HO_467000))) (Kd.R_lt (rP HO_467001))) (Kd.R_lt (rP HO_475000))) (Kd.R_lt (rP HO_475001))) (Kd.R_lt (rP HO_483000))) (Kd.R_lt (rP HO_483001))) (Kd.R_lt (rP HO509))) (below_size (bP HB))); replace HO_9 := Aside0.mk (Kd.R_mono (Kd.R_told (Kd.R_told (Kd.R_old (rP HO_9) hb) (Kd.R_base ho0)) (Kd.R_base ho1)) (fun _ h_ => h_.1)); replace HO_451000 := Aside0.mk (Kd.R_mono (Kd.R_told (Kd.R_told (Kd.R_old (rP HO_451000) hb) (Kd.R_base ho0)) (Kd.R_base ho1)) (fun _ h_ => h_.1)); replace HO_451001 := Aside0.mk (Kd.R_mono (Kd.R_told (Kd.R_told (Kd.R_old (rP HO_451001) hb) (Kd.R_base ho0)) (Kd.R_base ho1)) (fun _ h_ => h_.1)); replace HO_459000 := Aside0.mk (Kd.R_mono (Kd.R_told (Kd.R_told (Kd.R_old (rP HO_459000) hb) (Kd.R_base ho0)) (Kd.R_base ho1)) (fun _ h_ => h_.1)); replace HO_459001 := Aside0.mk (Kd.R_mono (Kd.R_told (Kd.R_told (Kd.R_old (rP HO_459001) hb) (Kd.R_base ho0)) (Kd.R_base ho1)) (fun _ h_ => h_.1)); replace HO_467000 := Aside0.mk (Kd.R_mono (Kd.R_told (Kd.R_told (Kd.R_old (rP HO_467000) hb) (Kd.R_base ho0)) (Kd.R_base ho1)) (fun _ h_ => h_.1)); replace HO_467001 := Aside0.mk (Kd.R_mono (Kd.R_told (Kd.R_told (Kd.R_old (rP HO_467001) hb) (Kd.R_base ho0)) (Kd.R_base ho1)) (fun _ h_ => h_.1)); replace HO_475000 := Aside0.mk (Kd.R_mono (Kd.R_told (Kd.R_told (Kd.R_old (rP HO_475000) hb) (Kd.R_base ho0)) (Kd.R_base ho1)) (fun _ h_ => h_.1)); replace HO_475001 := Aside0.mk (Kd.R_mono (Kd.R_told (Kd.R_told (Kd.R_old (rP HO_475001) hb) (Kd.R_base ho0)) (Kd.R_base ho1)) (fun _ h_ => h_.1)); replace HO_483000 := Aside0.mk (Kd.R_mono (Kd.R_told (Kd.R_told (Kd.R_old (rP HO_483000) hb) (Kd.R_base ho0)) (Kd.R_base ho1)) (fun _ h_ => h_.1)); replace HO_483001 := Aside0.mk (Kd.R_mono (Kd.R_told (Kd.R_told (Kd.R_old (rP HO_483001) hb) (Kd.R_base ho0)) (Kd.R_base ho1)) (fun _ h_ => h_.1)); replace HO509 := Aside0.mk (Kd.R_mono (Kd.R_told (Kd.R_told (Kd.R_old (rP HO509) hb) (Kd.R_base ho0)) (Kd.R_base ho1)) (fun _ h_ => h_.1)); replace BK430 := kB BK430 hb; replace BK450 := kB BK450 hb; replace BK458 := kB BK458 hb; replace BK466 := kB BK466 hb; replace BK474 := kB BK474 hb; replace BK482 := kB BK482 hb; replace HB := bS HB hb; (try clear hb); (try clear hb2); (try clear hk); (try clear hi); (try clear ho0); (try clear ho1)) | ((with_reducible refine gate_dst (N := 28) rfl ?_); (try (refine gate_guard (by rfl) ?_; dsimp only)); refine bE 28 #[.slice none 0 0, .slice none 0 0] 24 ?_; intro gb518 hg w172 hbox hb; replace HO_9 := rB HO_9 hb; replace HO_451000 := rB HO_451000 hb; replace HO_451001 := rB HO_451001 hb; replace HO_459000 := rB HO_459000 hb; replace HO_459001 := rB HO_459001 hb; replace HO_467000 := rB HO_467000 hb; replace HO_467001 := rB HO_467001 hb; replace HO_475000 := rB HO_475000 hb; replace HO_475001 := rB HO_475001 hb; replace HO_483000 := rB HO_483000 hb; replace HO_483001 := rB HO_483001 hb; replace HO509 := rB HO509 hb; replace HO513 := rB HO513 hb; replace HO516 := rB HO516 hb; have BK518 := Aside0.mk (hbox); have GW518 := gS HB hg; have GE518 := gS HB hg; replace HB := bS HB hb; have NB430_518 := nL BK430 hg; have NB518_430 := nG BK430 hg; replace BK430 := kB BK430 hb; have NB450_518 := nL BK450 hg; have NB518_450 := nG BK450 hg; replace BK450 := kB BK450 hb; have NB458_518 := nL BK458 hg; have NB518_458 := nG BK458 hg; replace BK458 := kB BK458 hb; have NB466_518 := nL BK466 hg; have NB518_466 := nG BK466 hg; replace BK466 := kB BK466 hb; have NB474_518 := nL BK474 hg; have NB518_474 := nG BK474 hg; replace BK474 := kB BK474 hb; have NB482_518 := nL BK482 hg; have NB518_482 := nG BK482 hg; replace BK482 := kB BK482 hb; clear hb hbox hg; obtain ⟨Ao173, co173, eo173⟩ := Kd.R_slice HO513.out; subst eo173; have hnb174 := NB518_430.out; have hnc174 := NB430_518.out; have hnb175 := NB518_450.out; have hnc175 := NB450_518.out; have hnb176 := NB518_458.out; have hnc176 := NB458_518.out; have hnb177 := NB518_466.out; have hnc177 := NB466_518.out; have hnb178 := NB518_474.out; have hnc178 := NB474_518.out; have hnb179 := NB518_482.out; have hnc179 := NB482_518.out; have hcz180_0 := zc0 BK518; have hcz180_1 := zc1 BK518; have hfz180_0 := blk_frozen BK518.out 0; have hfz180_1 := blk_frozen BK518.out 1; obtain ⟨Ao181, co181, eo181⟩ := Kd.R_slice HO516.out; subst eo181; have hcz182_0 := zc0 BK466; have hcz182_1 := zc1 BK466; have hfz182_0 := blk_frozen BK466.out 0; have hfz182_1 := blk_frozen BK466.out 1) | ((with_reducible refine gate_callee (f := 16) rfl ?_); refine gL (some 245) Try.func16 #[.agg #[.slice Ao63 t459.length co63, .slice Ao68 t462.length co68]] ?_; (with_reducible refine (impl_MapLeast.calls kj135 _ _ t459 _ _ t462 t519 t522 true _ ?side1 ?side2 ?side3 ?side4 A145.out).mono ?_); (case side1 => refine (Kd.R_reads' (e := 3) (base := w.heap.size) (ok := fun k_ => ((((some k_ ≠ (v433 : Value).ownBlock ∧ (oN k_ Ao48 t443 co48 ∧ (oN k_ Ao51 t446 co51 ∧ (oN k_ Ao55 t451 co55 ∧ (oN k_ Ao59 t454 co59 ∧ (oN k_ Ao68 t462 co68 ∧ (oN k_ Ao72 t467 co72 ∧ (oN k_ Ao78 t470 co78 ∧ (oN k_ Ao82 t475 co82 ∧ oN k_ Ao89 t478 co89))))))))) ∧ some k_ ≠ (v508 : Value).ownBlock) ∧ oN k_ Ao173 t511 co173) ∧ oN k_ Ao181 t514 co181)) (n := t459.length) (c := co63) ?_).2.2; exact (rT (Kd.R_mono (rF gb518 1 (rF gb518 0 (rY HO_467000 BK518) (.slice Ao173 t511.length co173)) (.slice Ao181 t514.length co181)) (fun _ h_ => h_.1)))); (case side2 => exact (Kd.R_reads' HO_467000.out).2.1); (case side3 => refine (Kd.R_reads' (e := 3) (base := w.heap.size) (ok := fun k_ => ((((some k_ ≠ (v433 : Value).ownBlock ∧ (oN k_ Ao48 t443 co48 ∧ (oN k_ Ao51 t446 co51 ∧ (oN k_ Ao55 t451 co55 ∧ (oN k_ Ao59 t454 co59 ∧ (oN k_ Ao63 t459 co63 ∧ (oN k_ Ao72 t467 co72 ∧ (oN k_ Ao78 t470 co78 ∧ (oN k_ Ao82 t475 co82 ∧ oN k_ Ao89 t478 co89))))))))) ∧ some k_ ≠ (v508 : Value).ownBlock) ∧ oN k_ Ao173 t511 co173) ∧ oN k_ Ao181 t514 co181)) (n := t462.length) (c := co68) ?_).2.2; exact (rT (Kd.R_mono (rF gb518 1 (rF gb518 0 (rY HO_467001 BK518) (.slice Ao173 t511.length co173)) (.slice Ao181 t514.length co181)) (fun _ h_ => h_.1)))); (case side4 => exact (Kd.R_reads' HO_467001.out).2.1); rintro e w183 ⟨v520, v523, rfl, ho0, ho1, hb⟩; refine ⟨_, rfl, ?_⟩; have HO521 := Aside0.mk (Kd.R_lower (Kd.R_new' (Kd.R_new' (Kd.R_new' (Kd.R_new' (Kd.R_new' (Kd.R_new' (Kd.R_new' (Kd.R_new' (Kd.R_new' (Kd.R_new' (Kd.R_new' (Kd.R_new' (Kd.R_new' (Kd.R_new' ho0 (Kd.R_lt (rT (Kd.R_mono (rF gb518 1 (rF gb518 0 (rY HO_9 BK518) (.slice Ao173 t511.length co173)) (.slice Ao181 t514.length co181)) (fun _ h_ => h_.1))))) (Kd.R_lt (rT (Kd.R_mono (rF gb518 1 (rF gb518 0 (rY HO_451000 BK518) (.slice Ao173 t511.length co173)) (.slice Ao181 t514.length co181)) (fun _ h_ => h_.1))))) (Kd.R_lt (rT (Kd.R_mono (rF gb518 1 (rF gb518 0 (rY HO_451001 BK518) (.slice Ao173 t511.length co173)) (.slice Ao181 t514.length co181)) (fun _ h_ => h_.1))))) (Kd.R_lt (rT (Kd.R_mono (rF gb518 1 (rF gb518 0 (rY HO_459000 BK518) (.slice Ao173 t511.length co173)) (.slice Ao181 t514.length co181)) (fun _ h_ => h_.1))))) (Kd.R_lt (rT (Kd.R_mono (rF gb518 1 (rF gb518 0 (rY HO_459001 BK518) (.slice Ao173 t511.length co173)) (.slice Ao181 t514.length co181)) (fun _ h_ => h_.1))))) (Kd.R_lt (rT (Kd.R_mono (rF gb518 1 (rF gb518 0 (rY HO_467000 BK518) (.slice Ao173 t511.length co173)) (.slice Ao181 t514.length co181)) (fun _ h_ => h_.1))))) (Kd.R_lt (rT (Kd.R_mono (rF gb518 1 (rF gb518 0 (rY HO_467001 BK518) (.slice Ao173 t511.length co173)) (.slice Ao181 t514.length co181)) (fun _ h_ => h_.1))))) (Kd.R_lt (rT (Kd.R_mono (rF gb518 1 (rF gb518 0 (rY HO_475000 BK518) (.slice Ao173 t511.length co173)) (.slice Ao181 t514.length co181)) (fun _ h_ => h_.1))))) (Kd.R_lt (rT (Kd.R_mono (rF gb518 1 (rF gb518 0 (rY HO_475001 BK518) (.slice Ao173 t511.length co173)) (.slice Ao181 t514.length co181)) (fun _ h_ => h_.1))))) (Kd.R_lt (rT (Kd.R_mono (rF gb518 1 (rF gb518 0 (rY HO_483000 BK518) (.slice Ao173 t511.length co173)) (.slice Ao181 t514.length co181)) (fun _ h_ => h_.1))))) (Kd.R_lt (rT (Kd.R_mono (rF gb518 1 (rF gb518 0 (rY HO_483001 BK518) (.slice Ao173 t511.length co173)) (.slice Ao181 t514.length co181)) (fun _ h_ => h_.1))))) (Kd.R_lt (rT (Kd.R_mono (rF gb518 1 (rF gb518 0 (rY HO509 BK518) (.slice Ao173 t511.length co173)) (.slice Ao181 t514.length co181)) (fun _ h_ => h_.1))))) (Kd.R_lt (rT (Kd.R_mono (rF gb518 1 (rF gb518 0 (rY HO513 BK518) (.slice Ao173 t511.length co173)) (.slice Ao181 t514.length co181)) (fun _ h_ => h_.1))))) (Kd.R_lt (rT (Kd.R_mono (rF gb518 1 (rF gb518 0 (rY HO516 BK518) (.slice Ao173 t511.length co173)) (.slice Ao181 t514.length co181)) (fun _ h_ => h_.1))))) (below_size (bP HB))); have HO524 := Aside0.mk (Kd.R_lower (Kd.R_new' (Kd.R_new' (Kd.R_new' (Kd.R_new' (Kd.R_new' (Kd.R_new' (Kd.R_new' (Kd.R_new' (Kd.R_new' (Kd.R_new' (Kd.R_new' (Kd.R_new' (Kd.R_new' (Kd.R_new' ho1 (Kd.R_lt (rT (Kd.R_mono (rF gb518 1 (rF gb518 0 (rY HO_9 BK518) (.slice Ao173 t511.length co173)) (.slice Ao181 t514.length co181)) (fun _ h_ => h_.1))))) (Kd.R_lt (rT (Kd.R_mono (rF gb518 1 (rF gb518 0 (rY HO_451000 BK518) (.slice Ao173 t511.length co173)) (.slice Ao181 t514.length co181)) (fun _ h_ => h_.1))))) (Kd.R_lt (rT (Kd.R_mono (rF gb518 1 (rF gb518 0 (rY HO_451001 BK518) (.slice Ao173 t511.length co173)) (.slice Ao181 t514.length co181)) (fun _ h_ => h_.1))))) (Kd.R_lt (rT (Kd.R_mono (rF gb518 1 (rF gb518 0 (rY HO_459000 BK518) (.slice Ao173 t511.length co173)) (.slice Ao181 t514.length co181)) (fun _ h_ => h_.1))))) (Kd.R_lt (rT (Kd.R_mono (rF gb518 1 (rF gb518 0 (rY HO_459001 BK518) (.slice Ao173 t511.length co173)) (.slice Ao181 t514.length co181)) (fun _ h_ => h_.1))))) (Kd.R_lt (rT (Kd.R_mono (rF gb518 1 (rF gb518 0 (rY HO_467000 BK518) (.slice Ao173 t511.length co173)) (.slice Ao181 t514.length co181)) (fun _ h_ => h_.1))))) (Kd.R_lt (rT (Kd.R_mono (rF gb518 1 (rF gb518 0 (rY HO_467001 BK518) (.slice Ao173 t511.length co173)) (.slice Ao181 t514.length co181)) (fun _ h_ => h_.1))))) (Kd.R_lt (rT (Kd.R_mono (rF gb518 1 (rF gb518 0 (rY HO_475000 BK518) (.slice Ao173 t511.length co173)) (.slice Ao181 t514.length co181)) (fun _ h_ => h_.1))))) (Kd.R_lt (rT (Kd.R_mono (rF gb518 1 (rF gb518 0 (rY HO_475001 BK518) (.slice Ao173 t511.length co173)) (.slice Ao181 t514.length co181)) (fun _ h_ => h_.1))))) (Kd.R_lt (rT (Kd.R_mono (rF gb518 1 (rF gb518 0 (rY HO_483000 BK518) (.slice Ao173 t511.length co173)) (.slice Ao181 t514.length co181)) (fun _ h_ => h_.1))))) (Kd.R_lt (rT (Kd.R_mono (rF gb518 1 (rF gb518 0 (rY HO_483001 BK518) (.slice Ao173 t511.length co173)) (.slice Ao181 t514.length co181)) (fun _ h_ => h_.1))))) (Kd.R_lt (rT (Kd.R_mono (rF gb518 1 (rF gb518 0 (rY HO509 BK518) (.slice Ao173 t511.length co173)) (.slice Ao181 t514.length co181)) (fun _ h_ => h_.1))))) (Kd.R_lt (rT (Kd.R_mono (rF gb518 1 (rF gb518 0 (rY HO513 BK518) (.slice Ao173 t511.length co173)) (.slice Ao181 t514.length co181)) (fun _ h_ => h_.1))))) (Kd.R_lt (rT (Kd.R_mono (rF gb518 1 (rF gb518 0 (rY HO516 BK518) (.slice Ao173 t511.length co173)) (.slice Ao181 t514.length co181)) (fun _ h_ => h_.1))))) (below_size (bP HB))); replace HO_9 := Aside0.mk (Kd.R_mono (Kd.R_told (Kd.R_told (Kd.R_old (rT (Kd.R_mono (rF gb518 1 (rF gb518 0 (rY HO_9 BK518) (.slice Ao173 t511.length co173)) (.slice Ao181 t514.length co181)) (fun _ h_ => h_.1))) hb) (Kd.R_base ho0)) (Kd.R_base ho1)) (fun _ h_ => h_.1)); replace HO_451000 := Aside0.mk (Kd.R_mono (Kd.R_told (Kd.R_told (Kd.R_old (rT (Kd.R_mono (rF gb518 1 (rF gb518 0 (rY HO_451000 BK518) (.slice Ao173 t511.length co173)) (.slice Ao181 t514.length co181)) (fun _ h_ => h_.1))) hb) (Kd.R_base ho0)) (Kd.R_base ho1)) (fun _ h_ => h_.1)); replace HO_451001 := Aside0.mk (Kd.R_mono (Kd.R_told (Kd.R_told (Kd.R_old (rT (Kd.R_mono (rF gb518 1 (rF gb518 0 (rY HO_451001 BK518) (.slice Ao173 t511.length co173)) (.slice Ao181 t514.length co181)) (fun _ h_ => h_.1))) hb) (Kd.R_base ho0)) (Kd.R_base ho1)) (fun _ h_ => h_.1)); replace HO_459000 := Aside0.mk (Kd.R_mono (Kd.R_told (Kd.R_told (Kd.R_old (rT (Kd.R_mono (rF gb518 1 (rF gb518 0 (rY HO_459000 BK518) (.slice Ao173 t511.length co173)) (.slice Ao181 t514.length co181)) (fun _ h_ => h_.1))) hb) (Kd.R_base ho0)) (Kd.R_base ho1)) (fun _ h_ => h_.1)); replace HO_459001 := Aside0.mk (Kd.R_mono (Kd.R_told (Kd.R_told (Kd.R_old (rT (Kd.R_mono (rF gb518 1 (rF gb518 0 (rY HO_459001 BK518) (.slice Ao173 t511.length co173)) (.slice Ao181 t514.length co181)) (fun _ h_ => h_.1))) hb) (Kd.R_base ho0)) (Kd.R_base ho1)) (fun _ h_ => h_.1)); replace HO_467000 := Aside0.mk (Kd.R_mono (Kd.R_told (Kd.R_told (Kd.R_old (rT (Kd.R_mono (rF gb518 1 (rF gb518 0 (rY HO_467000 BK518) (.slice Ao173 t511.length co173)) (.slice Ao181 t514.length co181)) (fun _ h_ => h_.1))) hb) (Kd.R_base ho0)) (Kd.R_base ho1)) (fun _ h_ => h_.1)); replace HO_467001 := Aside0.mk (Kd.R_mono (Kd.R_told (Kd.R_told (Kd.R_old (rT (Kd.R_mono (rF gb518 1 (rF gb518 0 (rY HO_467001 BK518) (.slice Ao173 t511.length co173)) (.slice Ao181 t514.length co181)) (fun _ h_ => h_.1))) hb) (Kd.R_base ho0)) (Kd.R_base ho1)) (fun _ h_ => h_.1)); replace HO_475000 := Aside0.mk (Kd.R_mono (Kd.R_told (Kd.R_told (Kd.R_old (rT (Kd.R_mono (rF gb518 1 (rF gb518 0 (rY HO_475000 BK518) (.slice Ao173 t511.length co173)) (.slice Ao181 t514.length co181)) (fun _ h_ => h_.1))) hb) (Kd.R_base ho0)) (Kd.R_base ho1)) (fun _ h_ => h_.1)); replace HO_475001 := Aside0.mk (Kd.R_mono (Kd.R_told (Kd.R_told (Kd.R_old (rT (Kd.R_mono (rF gb518 1 (rF gb518 0 (rY HO_475001 BK518) (.slice Ao173 t511.length co173)) (.slice Ao181 t514.length co181)) (fun _ h_ => h_.1))) hb) (Kd.R_base ho0)) (Kd.R_base ho1)) (fun _ h_ => h_.1)); replace HO_483000 := Aside0.mk (Kd.R_mono (Kd.R_told (Kd.R_told (Kd.R_old (rT (Kd.R_mono (rF gb518 1 (rF gb518 0 (rY HO_483000 BK518) (.slice Ao173 t511.length co173)) (.slice Ao181 t514.length co181)) (fun _ h_ => h_.1))) hb) (Kd.R_base ho0)) (Kd.R_base ho1)) (fun _ h_ => h_.1)); replace HO_483001 := Aside0.mk (Kd.R_mono (Kd.R_told (Kd.R_told (Kd.R_old (rT (Kd.R_mono (rF gb518 1 (rF gb518 0 (rY HO_483001 BK518) (.slice Ao173 t511.length co173)) (.slice Ao181 t514.length co181)) (fun _ h_ => h_.1))) hb) (Kd.R_base ho0)) (Kd.R_base ho1)) (fun _ h_ => h_.1)); replace HO509 := Aside0.mk (Kd.R_mono (Kd.R_told (Kd.R_told (Kd.R_old (rT (Kd.R_mono (rF gb518 1 (rF gb518 0 (rY HO509 BK518) (.slice Ao173 t511.length co173)) (.slice Ao181 t514.length co181)) (fun _ h_ => h_.1))) hb) (Kd.R_base ho0)) (Kd.R_base ho1)) (fun _ h_ => h_.1)); replace HO513 := Aside0.mk (Kd.R_mono (Kd.R_told (Kd.R_told (Kd.R_old (rT (Kd.R_mono (rF gb518 1 (rF gb518 0 (rY HO513 BK518) (.slice Ao173 t511.length co173)) (.slice Ao181 t514.length co181)) (fun _ h_ => h_.1))) hb) (Kd.R_base ho0)) (Kd.R_base ho1)) (fun _ h_ => h_.1)); replace HO516 := Aside0.mk (Kd.R_mono (Kd.R_told (Kd.R_told (Kd.R_old (rT (Kd.R_mono (rF gb518 1 (rF gb518 0 (rY HO516 BK518) (.slice Ao173 t511.length co173)) (.slice Ao181 t514.length co181)) (fun _ h_ => h_.1))) hb) (Kd.R_base ho0)) (Kd.R_base ho1)) (fun _ h_ => h_.1)); replace BK430 := kG BK430 hb; replace BK450 := kG BK450 hb; replace BK458 := kG BK458 hb; replace BK466 := kG BK466 hb; replace BK474 := kG BK474 hb; replace BK482 := kG BK482 hb; replace BK518 := Aside0.mk (blk_below (g := gb518) (o := .cells #[.slice Ao173 t511.length co173, .slice Ao181 t514.length co181] 24 (0, 0)) (by (with_reducible repeat (first | refine blk_drewN ?_ _ | refine blk_drew ?_ | refine blk_alloc ?_ _)); refine blk_put (cs := #[.slice Ao173 t511.length co173, .slice none 0 0]) ?_ 1 _ rfl; (with_reducible repeat (first | refine blk_drewN ?_ _ | refine blk_drew ?_ | refine blk_alloc ?_ _)); refine blk_put (cs := #[.slice none 0 0, .slice none 0 0]) ?_ 0 _ rfl; (with_reducible repeat (first | refine blk_drewN ?_ _ | refine blk_drew ?_ | refine blk_alloc ?_ _)); exact BK518.out) hb); replace HB := bS HB hb; (try clear hb); (try clear hb2); (try clear hk); (try clear hi); (try clear ho0); (try clear ho1)) | ((with_reducible refine gate_dst (N := 30) rfl ?_); (try (refine gate_guard (by rfl) ?_; dsimp only)); refine bE 30 #[.slice none 0 0, .slice none 0 0] 24 ?_; intro gb526 hg w184 hbox hb; replace HO_9 := rB HO_9 hb; replace HO_451000 := rB HO_451000 hb; replace HO_451001 := rB HO_451001 hb; replace HO_459000 := rB HO_459000 hb; replace HO_459001 := rB HO_459001 hb; replace HO_467000 := rB HO_467000 hb; replace HO_467001 := rB HO_467001 hb; replace HO_475000 := rB HO_475000 hb; replace HO_475001 := rB HO_475001 hb; replace HO_483000 := rB HO_483000 hb; replace HO_483001 := rB HO_483001 hb; replace HO509 := rB HO509 hb; replace HO513 := rB HO513 hb; replace HO516 := rB HO516 hb; replace HO521 := rB HO521 hb; replace HO524 := rB HO524 hb; have BK526 := Aside0.mk (hbox); have GW526 := gS HB hg; have GE526 := gS HB hg; replace HB := bS HB hb; have NB430_526 := nL BK430 hg; have NB526_430 := nG BK430 hg; replace BK430 := kB BK430 hb; have NB450_526 := nL BK450 hg; have NB526_450 := nG BK450 hg; replace BK450 := kB BK450 hb; have NB458_526 := nL BK458 hg; have NB526_458 := nG BK458 hg; replace BK458 := kB BK458 hb; have NB466_526 := nL BK466 hg; have NB526_466 := nG BK466 hg; replace BK466 := kB BK466 hb; have NB474_526 := nL BK474 hg; have NB526_474 := nG BK474 hg; replace BK474 := kB BK474 hb; have NB482_526 := nL BK482 hg; have NB526_482 := nG BK482 hg; replace BK482 := kB BK482 hb; have NB518_526 := nL BK518 hg; have NB526_518 := nG BK518 hg; replace BK518 := kB BK518 hb; clear hb hbox hg; obtain ⟨Ao185, co185, eo185⟩ := Kd.R_slice HO521.out; subst eo185; have hnb186 := NB526_430.out; have hnc186 := NB430_526.out; have hnb187 := NB526_450.out; have hnc187 := NB450_526.out; have hnb188 := NB526_458.out; have hnc188 := NB458_526.out; have hnb189 := NB526_466.out; have hnc189 := NB466_526.out; have hnb190 := NB526_474.out; have hnc190 := NB474_526.out; have hnb191 := NB526_482.out; have hnc191 := NB482_526.out; have hnb192 := NB526_518.out; have hnc192 := NB518_526.out; have hcz193_0 := zc0 BK526; have hcz193_1 := zc1 BK526; have hfz193_0 := blk_frozen BK526.out 0; have hfz193_1 := blk_frozen BK526.out 1; obtain ⟨Ao194, co194, eo194⟩ := Kd.R_slice HO524.out; subst eo194))
           as_aux_lemma =>
           have n0_ : Aside0 (Kd.R (Kd.int .i64) 3 ((w184.setCell ⟨gb526, 0, none⟩ (.slice Ao185 t519.length co185)).setCell ⟨gb526, 1, none⟩ (.slice Ao194 t522.length co194)) w.heap.size (fun k_ => oN k_ Ao48 t443 co48 ∧ oN k_ Ao51 t446 co51 ∧ oN k_ Ao55 t451 co55 ∧ oN k_ Ao59 t454 co59 ∧ oN k_ Ao63 t459 co63 ∧ oN k_ Ao68 t462 co68 ∧ oN k_ Ao72 t467 co72 ∧ oN k_ Ao78 t470 co78 ∧ oN k_ Ao82 t475 co82 ∧ oN k_ Ao89 t478 co89 ∧ some k_ ≠ (v508 : Value).ownBlock ∧ oN k_ Ao173 t511 co173 ∧ oN k_ Ao181 t514 co181 ∧ oN k_ Ao185 t519 co185 ∧ oN k_ Ao194 t522 co194) v433 t432) := ⟨rT (Kd.R_mono (rF gb526 1 (rF gb526 0 (rY HO_9 BK526) (.slice Ao185 t519.length co185)) (.slice Ao194 t522.length co194)) (fun _ hk => ⟨hk.1.1.1.1.1.1.1, ⟨hk.1.1.1.1.1.1.2.1, ⟨hk.1.1.1.1.1.1.2.2.1, ⟨hk.1.1.1.1.1.1.2.2.2.1, ⟨hk.1.1.1.1.1.1.2.2.2.2.1, ⟨hk.1.1.1.1.1.1.2.2.2.2.2.1, ⟨hk.1.1.1.1.1.1.2.2.2.2.2.2.1, ⟨hk.1.1.1.1.1.1.2.2.2.2.2.2.2.1, ⟨hk.1.1.1.1.1.1.2.2.2.2.2.2.2.2.1, ⟨hk.1.1.1.1.1.1.2.2.2.2.2.2.2.2.2, ⟨hk.1.1.1.1.1.2, ⟨hk.1.1.1.1.2, ⟨hk.1.1.1.2, ⟨hk.1.1.2, hk.1.2⟩⟩⟩⟩⟩⟩⟩⟩⟩⟩⟩⟩⟩⟩))⟩
           have n1_ : Aside0 (Kd.R (Kd.int .i64) 3 ((w184.setCell ⟨gb526, 0, none⟩ (.slice Ao185 t519.length co185)).setCell ⟨gb526, 1, none⟩ (.slice Ao194 t522.length co194)) w.heap.size (fun k_ => some k_ ≠ (v433 : Value).ownBlock ∧ oN k_ Ao51 t446 co51 ∧ oN k_ Ao55 t451 co55 ∧ oN k_ Ao59 t454 co59 ∧ oN k_ Ao63 t459 co63 ∧ oN k_ Ao68 t462 co68 ∧ oN k_ Ao72 t467 co72 ∧ oN k_ Ao78 t470 co78 ∧ oN k_ Ao82 t475 co82 ∧ oN k_ Ao89 t478 co89 ∧ some k_ ≠ (v508 : Value).ownBlock ∧ oN k_ Ao173 t511 co173 ∧ oN k_ Ao181 t514 co181 ∧ oN k_ Ao185 t519 co185 ∧ oN k_ Ao194 t522 co194) (.slice Ao48 t443.length co48) t443) := ⟨rT (Kd.R_mono (rF gb526 1 (rF gb526 0 (rY HO_451000 BK526) (.slice Ao185 t519.length co185)) (.slice Ao194 t522.length co194)) (fun _ hk => ⟨hk.1.1.1.1.1.1.1, ⟨hk.1.1.1.1.1.1.2.1, ⟨hk.1.1.1.1.1.1.2.2.1, ⟨hk.1.1.1.1.1.1.2.2.2.1, ⟨hk.1.1.1.1.1.1.2.2.2.2.1, ⟨hk.1.1.1.1.1.1.2.2.2.2.2.1, ⟨hk.1.1.1.1.1.1.2.2.2.2.2.2.1, ⟨hk.1.1.1.1.1.1.2.2.2.2.2.2.2.1, ⟨hk.1.1.1.1.1.1.2.2.2.2.2.2.2.2.1, ⟨hk.1.1.1.1.1.1.2.2.2.2.2.2.2.2.2, ⟨hk.1.1.1.1.1.2, ⟨hk.1.1.1.1.2, ⟨hk.1.1.1.2, ⟨hk.1.1.2, hk.1.2⟩⟩⟩⟩⟩⟩⟩⟩⟩⟩⟩⟩⟩⟩))⟩
           have n2_ : Aside0 (Kd.R (Kd.int .i64) 3 ((w184.setCell ⟨gb526, 0, none⟩ (.slice Ao185 t519.length co185)).setCell ⟨gb526, 1, none⟩ (.slice Ao194 t522.length co194)) w.heap.size (fun k_ => some k_ ≠ (v433 : Value).ownBlock ∧ oN k_ Ao48 t443 co48 ∧ oN k_ Ao55 t451 co55 ∧ oN k_ Ao59 t454 co59 ∧ oN k_ Ao63 t459 co63 ∧ oN k_ Ao68 t462 co68 ∧ oN k_ Ao72 t467 co72 ∧ oN k_ Ao78 t470 co78 ∧ oN k_ Ao82 t475 co82 ∧ oN k_ Ao89 t478 co89 ∧ some k_ ≠ (v508 : Value).ownBlock ∧ oN k_ Ao173 t511 co173 ∧ oN k_ Ao181 t514 co181 ∧ oN k_ Ao185 t519 co185 ∧ oN k_ Ao194 t522 co194) (.slice Ao51 t446.length co51) t446) := ⟨rT (Kd.R_mono (rF gb526 1 (rF gb526 0 (rY HO_451001 BK526) (.slice Ao185 t519.length co185)) (.slice Ao194 t522.length co194)) (fun _ hk => ⟨hk.1.1.1.1.1.1.1, ⟨hk.1.1.1.1.1.1.2.1, ⟨hk.1.1.1.1.1.1.2.2.1, ⟨hk.1.1.1.1.1.1.2.2.2.1, ⟨hk.1.1.1.1.1.1.2.2.2.2.1, ⟨hk.1.1.1.1.1.1.2.2.2.2.2.1, ⟨hk.1.1.1.1.1.1.2.2.2.2.2.2.1, ⟨hk.1.1.1.1.1.1.2.2.2.2.2.2.2.1, ⟨hk.1.1.1.1.1.1.2.2.2.2.2.2.2.2.1, ⟨hk.1.1.1.1.1.1.2.2.2.2.2.2.2.2.2, ⟨hk.1.1.1.1.1.2, ⟨hk.1.1.1.1.2, ⟨hk.1.1.1.2, ⟨hk.1.1.2, hk.1.2⟩⟩⟩⟩⟩⟩⟩⟩⟩⟩⟩⟩⟩⟩))⟩
           have n3_ : Aside0 (Kd.R (Kd.int .i64) 3 ((w184.setCell ⟨gb526, 0, none⟩ (.slice Ao185 t519.length co185)).setCell ⟨gb526, 1, none⟩ (.slice Ao194 t522.length co194)) w.heap.size (fun k_ => some k_ ≠ (v433 : Value).ownBlock ∧ oN k_ Ao48 t443 co48 ∧ oN k_ Ao51 t446 co51 ∧ oN k_ Ao59 t454 co59 ∧ oN k_ Ao63 t459 co63 ∧ oN k_ Ao68 t462 co68 ∧ oN k_ Ao72 t467 co72 ∧ oN k_ Ao78 t470 co78 ∧ oN k_ Ao82 t475 co82 ∧ oN k_ Ao89 t478 co89 ∧ some k_ ≠ (v508 : Value).ownBlock ∧ oN k_ Ao173 t511 co173 ∧ oN k_ Ao181 t514 co181 ∧ oN k_ Ao185 t519 co185 ∧ oN k_ Ao194 t522 co194) (.slice Ao55 t451.length co55) t451) := ⟨rT (Kd.R_mono (rF gb526 1 (rF gb526 0 (rY HO_459000 BK526) (.slice Ao185 t519.length co185)) (.slice Ao194 t522.length co194)) (fun _ hk => ⟨hk.1.1.1.1.1.1.1, ⟨hk.1.1.1.1.1.1.2.1, ⟨hk.1.1.1.1.1.1.2.2.1, ⟨hk.1.1.1.1.1.1.2.2.2.1, ⟨hk.1.1.1.1.1.1.2.2.2.2.1, ⟨hk.1.1.1.1.1.1.2.2.2.2.2.1, ⟨hk.1.1.1.1.1.1.2.2.2.2.2.2.1, ⟨hk.1.1.1.1.1.1.2.2.2.2.2.2.2.1, ⟨hk.1.1.1.1.1.1.2.2.2.2.2.2.2.2.1, ⟨hk.1.1.1.1.1.1.2.2.2.2.2.2.2.2.2, ⟨hk.1.1.1.1.1.2, ⟨hk.1.1.1.1.2, ⟨hk.1.1.1.2, ⟨hk.1.1.2, hk.1.2⟩⟩⟩⟩⟩⟩⟩⟩⟩⟩⟩⟩⟩⟩))⟩
           have n4_ : Aside0 (Kd.R (Kd.int .i64) 3 ((w184.setCell ⟨gb526, 0, none⟩ (.slice Ao185 t519.length co185)).setCell ⟨gb526, 1, none⟩ (.slice Ao194 t522.length co194)) w.heap.size (fun k_ => some k_ ≠ (v433 : Value).ownBlock ∧ oN k_ Ao48 t443 co48 ∧ oN k_ Ao51 t446 co51 ∧ oN k_ Ao55 t451 co55 ∧ oN k_ Ao63 t459 co63 ∧ oN k_ Ao68 t462 co68 ∧ oN k_ Ao72 t467 co72 ∧ oN k_ Ao78 t470 co78 ∧ oN k_ Ao82 t475 co82 ∧ oN k_ Ao89 t478 co89 ∧ some k_ ≠ (v508 : Value).ownBlock ∧ oN k_ Ao173 t511 co173 ∧ oN k_ Ao181 t514 co181 ∧ oN k_ Ao185 t519 co185 ∧ oN k_ Ao194 t522 co194) (.slice Ao59 t454.length co59) t454) := ⟨rT (Kd.R_mono (rF gb526 1 (rF gb526 0 (rY HO_459001 BK526) (.slice Ao185 t519.length co185)) (.slice Ao194 t522.length co194)) (fun _ hk => ⟨hk.1.1.1.1.1.1.1, ⟨hk.1.1.1.1.1.1.2.1, ⟨hk.1.1.1.1.1.1.2.2.1, ⟨hk.1.1.1.1.1.1.2.2.2.1, ⟨hk.1.1.1.1.1.1.2.2.2.2.1, ⟨hk.1.1.1.1.1.1.2.2.2.2.2.1, ⟨hk.1.1.1.1.1.1.2.2.2.2.2.2.1, ⟨hk.1.1.1.1.1.1.2.2.2.2.2.2.2.1, ⟨hk.1.1.1.1.1.1.2.2.2.2.2.2.2.2.1, ⟨hk.1.1.1.1.1.1.2.2.2.2.2.2.2.2.2, ⟨hk.1.1.1.1.1.2, ⟨hk.1.1.1.1.2, ⟨hk.1.1.1.2, ⟨hk.1.1.2, hk.1.2⟩⟩⟩⟩⟩⟩⟩⟩⟩⟩⟩⟩⟩⟩))⟩
           have n5_ : Aside0 (Kd.R (Kd.int .i64) 3 ((w184.setCell ⟨gb526, 0, none⟩ (.slice Ao185 t519.length co185)).setCell ⟨gb526, 1, none⟩ (.slice Ao194 t522.length co194)) w.heap.size (fun k_ => some k_ ≠ (v433 : Value).ownBlock ∧ oN k_ Ao48 t443 co48 ∧ oN k_ Ao51 t446 co51 ∧ oN k_ Ao55 t451 co55 ∧ oN k_ Ao59 t454 co59 ∧ oN k_ Ao68 t462 co68 ∧ oN k_ Ao72 t467 co72 ∧ oN k_ Ao78 t470 co78 ∧ oN k_ Ao82 t475 co82 ∧ oN k_ Ao89 t478 co89 ∧ some k_ ≠ (v508 : Value).ownBlock ∧ oN k_ Ao173 t511 co173 ∧ oN k_ Ao181 t514 co181 ∧ oN k_ Ao185 t519 co185 ∧ oN k_ Ao194 t522 co194) (.slice Ao63 t459.length co63) t459) := ⟨rT (Kd.R_mono (rF gb526 1 (rF gb526 0 (rY HO_467000 BK526) (.slice Ao185 t519.length co185)) (.slice Ao194 t522.length co194)) (fun _ hk => ⟨hk.1.1.1.1.1.1.1, ⟨hk.1.1.1.1.1.1.2.1, ⟨hk.1.1.1.1.1.1.2.2.1, ⟨hk.1.1.1.1.1.1.2.2.2.1, ⟨hk.1.1.1.1.1.1.2.2.2.2.1, ⟨hk.1.1.1.1.1.1.2.2.2.2.2.1, ⟨hk.1.1.1.1.1.1.2.2.2.2.2.2.1, ⟨hk.1.1.1.1.1.1.2.2.2.2.2.2.2.1, ⟨hk.1.1.1.1.1.1.2.2.2.2.2.2.2.2.1, ⟨hk.1.1.1.1.1.1.2.2.2.2.2.2.2.2.2, ⟨hk.1.1.1.1.1.2, ⟨hk.1.1.1.1.2, ⟨hk.1.1.1.2, ⟨hk.1.1.2, hk.1.2⟩⟩⟩⟩⟩⟩⟩⟩⟩⟩⟩⟩⟩⟩))⟩
           have n6_ : Aside0 (Kd.R (Kd.int .i64) 3 ((w184.setCell ⟨gb526, 0, none⟩ (.slice Ao185 t519.length co185)).setCell ⟨gb526, 1, none⟩ (.slice Ao194 t522.length co194)) w.heap.size (fun k_ => some k_ ≠ (v433 : Value).ownBlock ∧ oN k_ Ao48 t443 co48 ∧ oN k_ Ao51 t446 co51 ∧ oN k_ Ao55 t451 co55 ∧ oN k_ Ao59 t454 co59 ∧ oN k_ Ao63 t459 co63 ∧ oN k_ Ao72 t467 co72 ∧ oN k_ Ao78 t470 co78 ∧ oN k_ Ao82 t475 co82 ∧ oN k_ Ao89 t478 co89 ∧ some k_ ≠ (v508 : Value).ownBlock ∧ oN k_ Ao173 t511 co173 ∧ oN k_ Ao181 t514 co181 ∧ oN k_ Ao185 t519 co185 ∧ oN k_ Ao194 t522 co194) (.slice Ao68 t462.length co68) t462) := ⟨rT (Kd.R_mono (rF gb526 1 (rF gb526 0 (rY HO_467001 BK526) (.slice Ao185 t519.length co185)) (.slice Ao194 t522.length co194)) (fun _ hk => ⟨hk.1.1.1.1.1.1.1, ⟨hk.1.1.1.1.1.1.2.1, ⟨hk.1.1.1.1.1.1.2.2.1, ⟨hk.1.1.1.1.1.1.2.2.2.1, ⟨hk.1.1.1.1.1.1.2.2.2.2.1, ⟨hk.1.1.1.1.1.1.2.2.2.2.2.1, ⟨hk.1.1.1.1.1.1.2.2.2.2.2.2.1, ⟨hk.1.1.1.1.1.1.2.2.2.2.2.2.2.1, ⟨hk.1.1.1.1.1.1.2.2.2.2.2.2.2.2.1, ⟨hk.1.1.1.1.1.1.2.2.2.2.2.2.2.2.2, ⟨hk.1.1.1.1.1.2, ⟨hk.1.1.1.1.2, ⟨hk.1.1.1.2, ⟨hk.1.1.2, hk.1.2⟩⟩⟩⟩⟩⟩⟩⟩⟩⟩⟩⟩⟩⟩))⟩
           have n7_ : Aside0 (Kd.R (Kd.int .i64) 3 ((w184.setCell ⟨gb526, 0, none⟩ (.slice Ao185 t519.length co185)).setCell ⟨gb526, 1, none⟩ (.slice Ao194 t522.length co194)) w.heap.size (fun k_ => some k_ ≠ (v433 : Value).ownBlock ∧ oN k_ Ao48 t443 co48 ∧ oN k_ Ao51 t446 co51 ∧ oN k_ Ao55 t451 co55 ∧ oN k_ Ao59 t454 co59 ∧ oN k_ Ao63 t459 co63 ∧ oN k_ Ao68 t462 co68 ∧ oN k_ Ao78 t470 co78 ∧ oN k_ Ao82 t475 co82 ∧ oN k_ Ao89 t478 co89 ∧ some k_ ≠ (v508 : Value).ownBlock ∧ oN k_ Ao173 t511 co173 ∧ oN k_ Ao181 t514 co181 ∧ oN k_ Ao185 t519 co185 ∧ oN k_ Ao194 t522 co194) (.slice Ao72 t467.length co72) t467) := ⟨rT (Kd.R_mono (rF gb526 1 (rF gb526 0 (rY HO_475000 BK526) (.slice Ao185 t519.length co185)) (.slice Ao194 t522.length co194)) (fun _ hk => ⟨hk.1.1.1.1.1.1.1, ⟨hk.1.1.1.1.1.1.2.1, ⟨hk.1.1.1.1.1.1.2.2.1, ⟨hk.1.1.1.1.1.1.2.2.2.1, ⟨hk.1.1.1.1.1.1.2.2.2.2.1, ⟨hk.1.1.1.1.1.1.2.2.2.2.2.1, ⟨hk.1.1.1.1.1.1.2.2.2.2.2.2.1, ⟨hk.1.1.1.1.1.1.2.2.2.2.2.2.2.1, ⟨hk.1.1.1.1.1.1.2.2.2.2.2.2.2.2.1, ⟨hk.1.1.1.1.1.1.2.2.2.2.2.2.2.2.2, ⟨hk.1.1.1.1.1.2, ⟨hk.1.1.1.1.2, ⟨hk.1.1.1.2, ⟨hk.1.1.2, hk.1.2⟩⟩⟩⟩⟩⟩⟩⟩⟩⟩⟩⟩⟩⟩))⟩
           have n8_ : Aside0 (Kd.R (Kd.int .i64) 3 ((w184.setCell ⟨gb526, 0, none⟩ (.slice Ao185 t519.length co185)).setCell ⟨gb526, 1, none⟩ (.slice Ao194 t522.length co194)) w.heap.size (fun k_ => some k_ ≠ (v433 : Value).ownBlock ∧ oN k_ Ao48 t443 co48 ∧ oN k_ Ao51 t446 co51 ∧ oN k_ Ao55 t451 co55 ∧ oN k_ Ao59 t454 co59 ∧ oN k_ Ao63 t459 co63 ∧ oN k_ Ao68 t462 co68 ∧ oN k_ Ao72 t467 co72 ∧ oN k_ Ao82 t475 co82 ∧ oN k_ Ao89 t478 co89 ∧ some k_ ≠ (v508 : Value).ownBlock ∧ oN k_ Ao173 t511 co173 ∧ oN k_ Ao181 t514 co181 ∧ oN k_ Ao185 t519 co185 ∧ oN k_ Ao194 t522 co194) (.slice Ao78 t470.length co78) t470) := ⟨rT (Kd.R_mono (rF gb526 1 (rF gb526 0 (rY HO_475001 BK526) (.slice Ao185 t519.length co185)) (.slice Ao194 t522.length co194)) (fun _ hk => ⟨hk.1.1.1.1.1.1.1, ⟨hk.1.1.1.1.1.1.2.1, ⟨hk.1.1.1.1.1.1.2.2.1, ⟨hk.1.1.1.1.1.1.2.2.2.1, ⟨hk.1.1.1.1.1.1.2.2.2.2.1, ⟨hk.1.1.1.1.1.1.2.2.2.2.2.1, ⟨hk.1.1.1.1.1.1.2.2.2.2.2.2.1, ⟨hk.1.1.1.1.1.1.2.2.2.2.2.2.2.1, ⟨hk.1.1.1.1.1.1.2.2.2.2.2.2.2.2.1, ⟨hk.1.1.1.1.1.1.2.2.2.2.2.2.2.2.2, ⟨hk.1.1.1.1.1.2, ⟨hk.1.1.1.1.2, ⟨hk.1.1.1.2, ⟨hk.1.1.2, hk.1.2⟩⟩⟩⟩⟩⟩⟩⟩⟩⟩⟩⟩⟩⟩))⟩
           have n9_ : Aside0 (Kd.R (Kd.int .i64) 3 ((w184.setCell ⟨gb526, 0, none⟩ (.slice Ao185 t519.length co185)).setCell ⟨gb526, 1, none⟩ (.slice Ao194 t522.length co194)) w.heap.size (fun k_ => some k_ ≠ (v433 : Value).ownBlock ∧ oN k_ Ao48 t443 co48 ∧ oN k_ Ao51 t446 co51 ∧ oN k_ Ao55 t451 co55 ∧ oN k_ Ao59 t454 co59 ∧ oN k_ Ao63 t459 co63 ∧ oN k_ Ao68 t462 co68 ∧ oN k_ Ao72 t467 co72 ∧ oN k_ Ao78 t470 co78 ∧ oN k_ Ao89 t478 co89 ∧ some k_ ≠ (v508 : Value).ownBlock ∧ oN k_ Ao173 t511 co173 ∧ oN k_ Ao181 t514 co181 ∧ oN k_ Ao185 t519 co185 ∧ oN k_ Ao194 t522 co194) (.slice Ao82 t475.length co82) t475) := ⟨rT (Kd.R_mono (rF gb526 1 (rF gb526 0 (rY HO_483000 BK526) (.slice Ao185 t519.length co185)) (.slice Ao194 t522.length co194)) (fun _ hk => ⟨hk.1.1.1.1.1.1.1, ⟨hk.1.1.1.1.1.1.2.1, ⟨hk.1.1.1.1.1.1.2.2.1, ⟨hk.1.1.1.1.1.1.2.2.2.1, ⟨hk.1.1.1.1.1.1.2.2.2.2.1, ⟨hk.1.1.1.1.1.1.2.2.2.2.2.1, ⟨hk.1.1.1.1.1.1.2.2.2.2.2.2.1, ⟨hk.1.1.1.1.1.1.2.2.2.2.2.2.2.1, ⟨hk.1.1.1.1.1.1.2.2.2.2.2.2.2.2.1, ⟨hk.1.1.1.1.1.1.2.2.2.2.2.2.2.2.2, ⟨hk.1.1.1.1.1.2, ⟨hk.1.1.1.1.2, ⟨hk.1.1.1.2, ⟨hk.1.1.2, hk.1.2⟩⟩⟩⟩⟩⟩⟩⟩⟩⟩⟩⟩⟩⟩))⟩
           have n10_ : Aside0 (Kd.R (Kd.int .i64) 3 ((w184.setCell ⟨gb526, 0, none⟩ (.slice Ao185 t519.length co185)).setCell ⟨gb526, 1, none⟩ (.slice Ao194 t522.length co194)) w.heap.size (fun k_ => some k_ ≠ (v433 : Value).ownBlock ∧ oN k_ Ao48 t443 co48 ∧ oN k_ Ao51 t446 co51 ∧ oN k_ Ao55 t451 co55 ∧ oN k_ Ao59 t454 co59 ∧ oN k_ Ao63 t459 co63 ∧ oN k_ Ao68 t462 co68 ∧ oN k_ Ao72 t467 co72 ∧ oN k_ Ao78 t470 co78 ∧ oN k_ Ao82 t475 co82 ∧ some k_ ≠ (v508 : Value).ownBlock ∧ oN k_ Ao173 t511 co173 ∧ oN k_ Ao181 t514 co181 ∧ oN k_ Ao185 t519 co185 ∧ oN k_ Ao194 t522 co194) (.slice Ao89 t478.length co89) t478) := ⟨rT (Kd.R_mono (rF gb526 1 (rF gb526 0 (rY HO_483001 BK526) (.slice Ao185 t519.length co185)) (.slice Ao194 t522.length co194)) (fun _ hk => ⟨hk.1.1.1.1.1.1.1, ⟨hk.1.1.1.1.1.1.2.1, ⟨hk.1.1.1.1.1.1.2.2.1, ⟨hk.1.1.1.1.1.1.2.2.2.1, ⟨hk.1.1.1.1.1.1.2.2.2.2.1, ⟨hk.1.1.1.1.1.1.2.2.2.2.2.1, ⟨hk.1.1.1.1.1.1.2.2.2.2.2.2.1, ⟨hk.1.1.1.1.1.1.2.2.2.2.2.2.2.1, ⟨hk.1.1.1.1.1.1.2.2.2.2.2.2.2.2.1, ⟨hk.1.1.1.1.1.1.2.2.2.2.2.2.2.2.2, ⟨hk.1.1.1.1.1.2, ⟨hk.1.1.1.1.2, ⟨hk.1.1.1.2, ⟨hk.1.1.2, hk.1.2⟩⟩⟩⟩⟩⟩⟩⟩⟩⟩⟩⟩⟩⟩))⟩
           have n11_ : Aside0 (Kd.R (Kd.int .i64) 3 ((w184.setCell ⟨gb526, 0, none⟩ (.slice Ao185 t519.length co185)).setCell ⟨gb526, 1, none⟩ (.slice Ao194 t522.length co194)) w.heap.size (fun k_ => some k_ ≠ (v433 : Value).ownBlock ∧ oN k_ Ao48 t443 co48 ∧ oN k_ Ao51 t446 co51 ∧ oN k_ Ao55 t451 co55 ∧ oN k_ Ao59 t454 co59 ∧ oN k_ Ao63 t459 co63 ∧ oN k_ Ao68 t462 co68 ∧ oN k_ Ao72 t467 co72 ∧ oN k_ Ao78 t470 co78 ∧ oN k_ Ao82 t475 co82 ∧ oN k_ Ao89 t478 co89 ∧ oN k_ Ao173 t511 co173 ∧ oN k_ Ao181 t514 co181 ∧ oN k_ Ao185 t519 co185 ∧ oN k_ Ao194 t522 co194) v508 t507) := ⟨rT (Kd.R_mono (rF gb526 1 (rF gb526 0 (rY HO509 BK526) (.slice Ao185 t519.length co185)) (.slice Ao194 t522.length co194)) (fun _ hk => ⟨hk.1.1.1.1.1.1.1.1.1.1.1.1.1.1.1.2, ⟨hk.1.1.1.1.1.1.1.1.1.1.1.1.1.1.2, ⟨hk.1.1.1.1.1.1.1.1.1.1.1.1.1.2, ⟨hk.1.1.1.1.1.1.1.1.1.1.1.1.2, ⟨hk.1.1.1.1.1.1.1.1.1.1.1.2, ⟨hk.1.1.1.1.1.1.1.1.1.1.2, ⟨hk.1.1.1.1.1.1.1.1.1.2, ⟨hk.1.1.1.1.1.1.1.1.2, ⟨hk.1.1.1.1.1.1.1.2, ⟨hk.1.1.1.1.1.1.2, ⟨hk.1.1.1.1.1.2, ⟨hk.1.1.1.1.2, ⟨hk.1.1.1.2, ⟨hk.1.1.2, hk.1.2⟩⟩⟩⟩⟩⟩⟩⟩⟩⟩⟩⟩⟩⟩))⟩
           have n12_ : Aside0 (Kd.R (Kd.int .i64) 3 ((w184.setCell ⟨gb526, 0, none⟩ (.slice Ao185 t519.length co185)).setCell ⟨gb526, 1, none⟩ (.slice Ao194 t522.length co194)) w.heap.size (fun k_ => some k_ ≠ (v433 : Value).ownBlock ∧ oN k_ Ao48 t443 co48 ∧ oN k_ Ao51 t446 co51 ∧ oN k_ Ao55 t451 co55 ∧ oN k_ Ao59 t454 co59 ∧ oN k_ Ao63 t459 co63 ∧ oN k_ Ao68 t462 co68 ∧ oN k_ Ao72 t467 co72 ∧ oN k_ Ao78 t470 co78 ∧ oN k_ Ao82 t475 co82 ∧ oN k_ Ao89 t478 co89 ∧ some k_ ≠ (v508 : Value).ownBlock ∧ oN k_ Ao181 t514 co181 ∧ oN k_ Ao185 t519 co185 ∧ oN k_ Ao194 t522 co194) (.slice Ao173 t511.length co173) t511) := ⟨rT (Kd.R_mono (rF gb526 1 (rF gb526 0 (rY HO513 BK526) (.slice Ao185 t519.length co185)) (.slice Ao194 t522.length co194)) (fun _ hk => ⟨hk.1.1.1.1.1.1.1.1.1.1.1.1.1.1.2, ⟨hk.1.1.1.1.1.1.1.1.1.1.1.1.1.2, ⟨hk.1.1.1.1.1.1.1.1.1.1.1.1.2, ⟨hk.1.1.1.1.1.1.1.1.1.1.1.2, ⟨hk.1.1.1.1.1.1.1.1.1.1.2, ⟨hk.1.1.1.1.1.1.1.1.1.2, ⟨hk.1.1.1.1.1.1.1.1.2, ⟨hk.1.1.1.1.1.1.1.2, ⟨hk.1.1.1.1.1.1.2, ⟨hk.1.1.1.1.1.2, ⟨hk.1.1.1.1.2, ⟨hk.1.1.1.2, ⟨hk.1.1.1.1.1.1.1.1.1.1.1.1.1.1.1, ⟨hk.1.1.2, hk.1.2⟩⟩⟩⟩⟩⟩⟩⟩⟩⟩⟩⟩⟩⟩))⟩
           have n13_ : Aside0 (Kd.R (Kd.int .i64) 3 ((w184.setCell ⟨gb526, 0, none⟩ (.slice Ao185 t519.length co185)).setCell ⟨gb526, 1, none⟩ (.slice Ao194 t522.length co194)) w.heap.size (fun k_ => some k_ ≠ (v433 : Value).ownBlock ∧ oN k_ Ao48 t443 co48 ∧ oN k_ Ao51 t446 co51 ∧ oN k_ Ao55 t451 co55 ∧ oN k_ Ao59 t454 co59 ∧ oN k_ Ao63 t459 co63 ∧ oN k_ Ao68 t462 co68 ∧ oN k_ Ao72 t467 co72 ∧ oN k_ Ao78 t470 co78 ∧ oN k_ Ao82 t475 co82 ∧ oN k_ Ao89 t478 co89 ∧ some k_ ≠ (v508 : Value).ownBlock ∧ oN k_ Ao173 t511 co173 ∧ oN k_ Ao185 t519 co185 ∧ oN k_ Ao194 t522 co194) (.slice Ao181 t514.length co181) t514) := ⟨rT (Kd.R_mono (rF gb526 1 (rF gb526 0 (rY HO516 BK526) (.slice Ao185 t519.length co185)) (.slice Ao194 t522.length co194)) (fun _ hk => ⟨hk.1.1.1.1.1.1.1.1.1.1.1.1.1.1.2, ⟨hk.1.1.1.1.1.1.1.1.1.1.1.1.1.2, ⟨hk.1.1.1.1.1.1.1.1.1.1.1.1.2, ⟨hk.1.1.1.1.1.1.1.1.1.1.1.2, ⟨hk.1.1.1.1.1.1.1.1.1.1.2, ⟨hk.1.1.1.1.1.1.1.1.1.2, ⟨hk.1.1.1.1.1.1.1.1.2, ⟨hk.1.1.1.1.1.1.1.2, ⟨hk.1.1.1.1.1.1.2, ⟨hk.1.1.1.1.1.2, ⟨hk.1.1.1.1.2, ⟨hk.1.1.1.2, ⟨hk.1.1.1.1.1.1.1.1.1.1.1.1.1.1.1, ⟨hk.1.1.2, hk.1.2⟩⟩⟩⟩⟩⟩⟩⟩⟩⟩⟩⟩⟩⟩))⟩
           have n14_ : Aside0 (Kd.R (Kd.int .i64) 3 ((w184.setCell ⟨gb526, 0, none⟩ (.slice Ao185 t519.length co185)).setCell ⟨gb526, 1, none⟩ (.slice Ao194 t522.length co194)) w.heap.size (fun k_ => some k_ ≠ (v433 : Value).ownBlock ∧ oN k_ Ao48 t443 co48 ∧ oN k_ Ao51 t446 co51 ∧ oN k_ Ao55 t451 co55 ∧ oN k_ Ao59 t454 co59 ∧ oN k_ Ao63 t459 co63 ∧ oN k_ Ao68 t462 co68 ∧ oN k_ Ao72 t467 co72 ∧ oN k_ Ao78 t470 co78 ∧ oN k_ Ao82 t475 co82 ∧ oN k_ Ao89 t478 co89 ∧ some k_ ≠ (v508 : Value).ownBlock ∧ oN k_ Ao173 t511 co173 ∧ oN k_ Ao181 t514 co181 ∧ oN k_ Ao194 t522 co194) (.slice Ao185 t519.length co185) t519) := ⟨rT (Kd.R_mono (rF gb526 1 (rF gb526 0 (rY HO521 BK526) (.slice Ao185 t519.length co185)) (.slice Ao194 t522.length co194)) (fun _ hk => ⟨hk.1.1.1.1.1.1.1.1.1.1.1.1.1.1.2, ⟨hk.1.1.1.1.1.1.1.1.1.1.1.1.1.2, ⟨hk.1.1.1.1.1.1.1.1.1.1.1.1.2, ⟨hk.1.1.1.1.1.1.1.1.1.1.1.2, ⟨hk.1.1.1.1.1.1.1.1.1.1.2, ⟨hk.1.1.1.1.1.1.1.1.1.2, ⟨hk.1.1.1.1.1.1.1.1.2, ⟨hk.1.1.1.1.1.1.1.2, ⟨hk.1.1.1.1.1.1.2, ⟨hk.1.1.1.1.1.2, ⟨hk.1.1.1.1.2, ⟨hk.1.1.1.2, ⟨hk.1.1.2, ⟨hk.1.2, hk.1.1.1.1.1.1.1.1.1.1.1.1.1.1.1⟩⟩⟩⟩⟩⟩⟩⟩⟩⟩⟩⟩⟩⟩))⟩
           have n15_ : Aside0 (Kd.R (Kd.int .i64) 3 ((w184.setCell ⟨gb526, 0, none⟩ (.slice Ao185 t519.length co185)).setCell ⟨gb526, 1, none⟩ (.slice Ao194 t522.length co194)) w.heap.size (fun k_ => some k_ ≠ (v433 : Value).ownBlock ∧ oN k_ Ao48 t443 co48 ∧ oN k_ Ao51 t446 co51 ∧ oN k_ Ao55 t451 co55 ∧ oN k_ Ao59 t454 co59 ∧ oN k_ Ao63 t459 co63 ∧ oN k_ Ao68 t462 co68 ∧ oN k_ Ao72 t467 co72 ∧ oN k_ Ao78 t470 co78 ∧ oN k_ Ao82 t475 co82 ∧ oN k_ Ao89 t478 co89 ∧ some k_ ≠ (v508 : Value).ownBlock ∧ oN k_ Ao173 t511 co173 ∧ oN k_ Ao181 t514 co181 ∧ oN k_ Ao185 t519 co185) (.slice Ao194 t522.length co194) t522) := ⟨rT (Kd.R_mono (rF gb526 1 (rF gb526 0 (rY HO524 BK526) (.slice Ao185 t519.length co185)) (.slice Ao194 t522.length co194)) (fun _ hk => ⟨hk.1.1.1.1.1.1.1.1.1.1.1.1.1.1.2, ⟨hk.1.1.1.1.1.1.1.1.1.1.1.1.1.2, ⟨hk.1.1.1.1.1.1.1.1.1.1.1.1.2, ⟨hk.1.1.1.1.1.1.1.1.1.1.1.2, ⟨hk.1.1.1.1.1.1.1.1.1.1.2, ⟨hk.1.1.1.1.1.1.1.1.1.2, ⟨hk.1.1.1.1.1.1.1.1.2, ⟨hk.1.1.1.1.1.1.1.2, ⟨hk.1.1.1.1.1.1.2, ⟨hk.1.1.1.1.1.2, ⟨hk.1.1.1.1.2, ⟨hk.1.1.1.2, ⟨hk.1.1.2, ⟨hk.1.2, hk.1.1.1.1.1.1.1.1.1.1.1.1.1.1.1⟩⟩⟩⟩⟩⟩⟩⟩⟩⟩⟩⟩⟩⟩))⟩
           have n16_ : Aside0 (((w184.setCell ⟨gb526, 0, none⟩ (.slice Ao185 t519.length co185)).setCell ⟨gb526, 1, none⟩ (.slice Ao194 t522.length co194)).heap[gb430]? = some (.cells #[.slice A0 l0.length c0, .slice A1 l1.length c1] 24 (0, 0))) := ⟨kF BK430⟩
           have n17_ : Aside0 (((w184.setCell ⟨gb526, 0, none⟩ (.slice Ao185 t519.length co185)).setCell ⟨gb526, 1, none⟩ (.slice Ao194 t522.length co194)).heap[gb450]? = some (.cells #[.slice Ao48 t443.length co48, .slice Ao51 t446.length co51] 24 (0, 0))) := ⟨kF BK450⟩
           have n18_ : Aside0 (((w184.setCell ⟨gb526, 0, none⟩ (.slice Ao185 t519.length co185)).setCell ⟨gb526, 1, none⟩ (.slice Ao194 t522.length co194)).heap[gb458]? = some (.cells #[.slice Ao55 t451.length co55, .slice Ao59 t454.length co59] 24 (0, 0))) := ⟨kF BK458⟩
           have n19_ : Aside0 (((w184.setCell ⟨gb526, 0, none⟩ (.slice Ao185 t519.length co185)).setCell ⟨gb526, 1, none⟩ (.slice Ao194 t522.length co194)).heap[gb466]? = some (.cells #[.slice Ao63 t459.length co63, .slice Ao68 t462.length co68] 24 (0, 0))) := ⟨kF BK466⟩
           have n20_ : Aside0 (((w184.setCell ⟨gb526, 0, none⟩ (.slice Ao185 t519.length co185)).setCell ⟨gb526, 1, none⟩ (.slice Ao194 t522.length co194)).heap[gb474]? = some (.cells #[.slice Ao72 t467.length co72, .slice Ao78 t470.length co78] 24 (0, 0))) := ⟨kF BK474⟩
           have n21_ : Aside0 (((w184.setCell ⟨gb526, 0, none⟩ (.slice Ao185 t519.length co185)).setCell ⟨gb526, 1, none⟩ (.slice Ao194 t522.length co194)).heap[gb482]? = some (.cells #[.slice Ao82 t475.length co82, .slice Ao89 t478.length co89] 24 (0, 0))) := ⟨kF BK482⟩
           have n22_ : Aside0 (((w184.setCell ⟨gb526, 0, none⟩ (.slice Ao185 t519.length co185)).setCell ⟨gb526, 1, none⟩ (.slice Ao194 t522.length co194)).heap[gb518]? = some (.cells #[.slice Ao173 t511.length co173, .slice Ao181 t514.length co181] 24 (0, 0))) := ⟨kF BK518⟩
           have n23_ : Aside0 (((w184.setCell ⟨gb526, 0, none⟩ (.slice Ao185 t519.length co185)).setCell ⟨gb526, 1, none⟩ (.slice Ao194 t522.length co194)).heap[gb526]? = some (.cells #[.slice Ao185 t519.length co185, .slice Ao194 t522.length co194] 24 (0, 0))) := ⟨by (with_reducible repeat (first | refine blk_drewN ?_ _ | refine blk_drew ?_ | refine blk_alloc ?_ _)); refine blk_put (cs := #[.slice Ao185 t519.length co185, .slice none 0 0]) ?_ 1 _ rfl; (with_reducible repeat (first | refine blk_drewN ?_ _ | refine blk_drew ?_ | refine blk_alloc ?_ _)); refine blk_put (cs := #[.slice none 0 0, .slice none 0 0]) ?_ 0 _ rfl; (with_reducible repeat (first | refine blk_drewN ?_ _ | refine blk_drew ?_ | refine blk_alloc ?_ _)); exact BK526.out⟩
           have n24_ : Aside0 (Below w.heap.size w ((w184.setCell ⟨gb526, 0, none⟩ (.slice Ao185 t519.length co185)).setCell ⟨gb526, 1, none⟩ (.slice Ao194 t522.length co194))) := ⟨bP HB⟩
           (try clear HO_9)
           (try clear HO_451000)
           (try clear HO_451001)
           (try clear HO_459000)
           (try clear HO_459001)
           (try clear HO_467000)
           (try clear HO_467001)
           (try clear HO_475000)
           (try clear HO_475001)
           (try clear HO_483000)
           (try clear HO_483001)
           (try clear HO509)
           (try clear HO513)
           (try clear HO516)
           (try clear HO521)
           (try clear HO524)
           (try clear BK430)
           (try clear BK450)
           (try clear BK458)
           (try clear BK466)
           (try clear BK474)
           (try clear BK482)
           (try clear BK518)
           (try clear BK526)
           (try clear HB)
           as_aux_lemma =>
           generalize ((w184.setCell ⟨gb526, 0, none⟩ (.slice Ao185 t519.length co185)).setCell ⟨gb526, 1, none⟩ (.slice Ao194 t522.length co194)) = w195 at n0_ n1_ n2_ n3_ n4_ n5_ n6_ n7_ n8_ n9_ n10_ n11_ n12_ n13_ n14_ n15_ n16_ n17_ n18_ n19_ n20_ n21_ n22_ n23_ n24_ ⊢
           have HO_9 := n0_
           have HO_451000 := n1_
           have HO_451001 := n2_
           have HO_459000 := n3_
           have HO_459001 := n4_
           have HO_467000 := n5_
           have HO_467001 := n6_
           have HO_475000 := n7_
           have HO_475001 := n8_
           have HO_483000 := n9_
           have HO_483001 := n10_
           have HO509 := n11_
           have HO513 := n12_
           have HO516 := n13_
           have HO521 := n14_
           have HO524 := n15_
           have BK430 := n16_
           have BK450 := n17_
           have BK458 := n18_
           have BK466 := n19_
           have BK474 := n20_
           have BK482 := n21_
           have BK518 := n22_
           have BK526 := n23_
           have HB := n24_
           clear n0_ n1_ n2_ n3_ n4_ n5_ n6_ n7_ n8_ n9_ n10_ n11_ n12_ n13_ n14_ n15_ n16_ n17_ n18_ n19_ n20_ n21_ n22_ n23_ n24_
           replace HO_9 := Aside0.mk (Kd.R_drew HO_9.out)
           replace HO_451000 := Aside0.mk (Kd.R_drew HO_451000.out)
           replace HO_451001 := Aside0.mk (Kd.R_drew HO_451001.out)
           as_aux_lemma =>
           replace HO_459000 := Aside0.mk (Kd.R_drew HO_459000.out)
           replace HO_459001 := Aside0.mk (Kd.R_drew HO_459001.out)
           replace HO_467000 := Aside0.mk (Kd.R_drew HO_467000.out)
           replace HO_467001 := Aside0.mk (Kd.R_drew HO_467001.out)
           replace HO_475000 := Aside0.mk (Kd.R_drew HO_475000.out)
           replace HO_475001 := Aside0.mk (Kd.R_drew HO_475001.out)
           replace HO_483000 := Aside0.mk (Kd.R_drew HO_483000.out)
           replace HO_483001 := Aside0.mk (Kd.R_drew HO_483001.out)
           replace HO509 := Aside0.mk (Kd.R_drew HO509.out)
           replace HO513 := Aside0.mk (Kd.R_drew HO513.out)
           replace HO516 := Aside0.mk (Kd.R_drew HO516.out)
           replace HO521 := Aside0.mk (Kd.R_drew HO521.out)
           replace HO524 := Aside0.mk (Kd.R_drew HO524.out)
           replace BK430 := Aside0.mk (blk_drew BK430.out)
           replace BK450 := Aside0.mk (blk_drew BK450.out)
           replace BK458 := Aside0.mk (blk_drew BK458.out)
           replace BK466 := Aside0.mk (blk_drew BK466.out)
           replace BK474 := Aside0.mk (blk_drew BK474.out)
           replace BK482 := Aside0.mk (blk_drew BK482.out)
           replace BK518 := Aside0.mk (blk_drew BK518.out)
           replace BK526 := Aside0.mk (blk_drew BK526.out)
           replace HB := Aside0.mk (below_drew1 HB.out)
           obtain ⟨Ao197, co197, eo197⟩ := Kd.R_slice HO509.out
           (first | subst eo197 | (injection eo197 with f1_ f2_ f3_; have f4_ := f1_.symm; have f5_ := f3_.symm; clear f1_ f2_ f3_; subst f4_; subst f5_))
           obtain ⟨Ao198, co198, eo198⟩ := Kd.R_slice HO_9.out
           (first | subst eo198 | (injection eo198 with f1_ f2_ f3_; have f4_ := f1_.symm; have f5_ := f3_.symm; clear f1_ f2_ f3_; subst f4_; subst f5_))
           as_aux_lemma =>
           refine start_ (n := 39) (S := fun w' => w'.cell? ⟨gb430, 0, none⟩ = some (.slice A0 l0.length c0) ∧ w'.cell? ⟨gb430, 1, none⟩ = some (.slice A1 l1.length c1) ∧ w'.cell? ⟨gb466, 0, none⟩ = some (.slice Ao63 t459.length co63) ∧ w'.cell? ⟨gb466, 1, none⟩ = some (.slice Ao68 t462.length co68) ∧ w'.cell? ⟨gb518, 0, none⟩ = some (.slice Ao173 t511.length co173) ∧ w'.cell? ⟨gb518, 1, none⟩ = some (.slice Ao181 t514.length co181) ∧ w'.cell? ⟨gb526, 0, none⟩ = some (.slice Ao185 t519.length co185) ∧ w'.cell? ⟨gb526, 1, none⟩ = some (.slice Ao194 t522.length co194)) (ds := []) (tf 0 39) (by kernel_rfl) rfl rfl ⟨(blk_cell BK430.out 0).trans rfl, (blk_cell BK430.out 1).trans rfl, (blk_cell BK466.out 0).trans rfl, (blk_cell BK466.out 1).trans rfl, (blk_cell BK518.out 0).trans rfl, (blk_cell BK518.out 1).trans rfl, (blk_cell BK526.out 0).trans rfl, (blk_cell BK526.out 1).trans rfl⟩ (fun hHeld => ?_); refine with_tabW laws_FnMapWhole.tab29 laws_FnMapWhole.bits29 (fun HT_ HW_ => ?_)
           generalize w195.drew = w196 at HO_9 HO_451000 HO_451001 HO_459000 HO_459001 HO_467000 HO_467001 HO_475000 HO_475001 HO_483000 HO_483001 HO509 HO513 HO516 HO521 HO524 BK430 BK450 BK458 BK466 BK474 BK482 BK518 BK526 HB hHeld ⊢
           refine pV 0 248 (tf 1 38) HT_ ?_
           refine pV 1 249 (tf 2 37) HT_ ?_
           refine pV 2 250 (tf 3 36) HT_ ?_
           refine pV 3 251 (tf 4 35) HT_ ?_
           refine pV 4 252 (tf 5 34) HT_ ?_
           refine pV 5 253 (tf 6 33) HT_ ?_
           refine pV 6 254 (tf 7 32) HT_ ?_
           refine pV 7 255 (tf 8 31) HT_ ?_
           refine pV 8 256 (tf 9 30) HT_ ?_
           refine pV 9 257 (tf 10 29) HT_ ?_
           refine eN 10 (some 258) (tf 11 28) HT_ (fun K hK => ?_)
           refine goes_ Try.func15 (by kernel_rfl) rfl #[.slice Ao197 t507.length co197, .slice Ao198 t432.length co198] (by rfl) rfl rfl (by (try simp only [List.map_toArray, List.map_cons, List.map_nil]); first | done | rfl | (simp only [List.length_drop, List.length_take]; rfl)) ?_
           with_reducible refine (laws_sameInts.calls kj135 _ _ t507 _ _ t432 true _ ?side1 ?side2 ?side3 ?side4 A149.out).mono ?_
           (case side1 => exact cP (Kd.R_reads' HO509.out).2.2)
           (case side2 => exact (Kd.R_reads' HO509.out).2.1)
           (case side3 => exact cP (Kd.R_reads' HO_9.out).2.2)
           (case side4 => exact (Kd.R_reads' HO_9.out).2.1)
           rintro e w' ⟨rfl, ⟨nd, rfl⟩⟩
           refine ⟨_, rfl, ?_⟩
           refine hK.out _ _ ⟨(blk_cell BK430.out 0).trans rfl, (blk_cell BK430.out 1).trans rfl, (blk_cell BK466.out 0).trans rfl, (blk_cell BK466.out 1).trans rfl, (blk_cell BK518.out 0).trans rfl, (blk_cell BK518.out 1).trans rfl, (blk_cell BK526.out 0).trans rfl, (blk_cell BK526.out 1).trans rfl⟩ (fun hHeld => ?_)
           clear hK K
           refine norm_ (a' := ?_) ?_ ?_
           rotate_left
           ·show Act.put _ (some 258) _ = _
            simp only [Act.put, List.setIfInBounds_toArray, List.set_cons_zero, List.set_cons_succ, i64_w, i32_w]
            rfl
           refine pV 11 259 (tf 12 27) HT_ ?_
           refine pV 12 260 (tf 13 26) HT_ ?_
           as_aux_lemma =>
           refine tV 13 261 (tf 14 25) HT_ HW_ hHeld ?_
           refine tV 14 262 (tf 15 24) HT_ HW_ hHeld ?_
           refine eN 15 (some 263) (tf 16 23) HT_ (fun K hK => ?_)
           refine goes_ Try.func17 (by kernel_rfl) rfl #[.agg #[.slice A0 l0.length c0, .slice A1 l1.length c1], .agg #[.slice Ao63 t459.length co63, .slice Ao68 t462.length co68]] (by rfl) rfl rfl (by (try simp only [List.map_toArray, List.map_cons, List.map_nil]); first | done | rfl | (simp only [List.length_drop, List.length_take]; rfl)) ?_
           with_reducible refine (impl_MapSame.calls kj135 _ _ l0 _ _ l1 _ _ t459 _ _ t462 true _ ?side1 ?side2 ?side3 ?side4 ?side5 ?side6 ?side7 ?side8 A151.out).mono ?_
           (case side1 => exact cP (Kd.C_below HR0.out (bP HB)))
           (case side2 => exact HC0.out)
           (case side3 => exact cP (Kd.C_below HR1.out (bP HB)))
           (case side4 => exact HC1.out)
           (case side5 => exact cP (Kd.R_reads' HO_467000.out).2.2)
           (case side6 => exact (Kd.R_reads' HO_467000.out).2.1)
           (case side7 => exact cP (Kd.R_reads' HO_467001.out).2.2)
           (case side8 => exact (Kd.R_reads' HO_467001.out).2.1)
           rintro e w199 ⟨rfl, hb⟩
           refine ⟨_, rfl, ?_⟩
           replace HO_9 := rB HO_9 hb
           replace HO_451000 := rB HO_451000 hb
           replace HO_451001 := rB HO_451001 hb
           replace HO_459000 := rB HO_459000 hb
           replace HO_459001 := rB HO_459001 hb
           replace HO_467000 := rB HO_467000 hb
           replace HO_467001 := rB HO_467001 hb
           replace HO_475000 := rB HO_475000 hb
           replace HO_475001 := rB HO_475001 hb
           replace HO_483000 := rB HO_483000 hb
           replace HO_483001 := rB HO_483001 hb
           replace HO509 := rB HO509 hb
           replace HO513 := rB HO513 hb
           replace HO516 := rB HO516 hb
           replace HO521 := rB HO521 hb
           as_aux_lemma =>
           replace HO524 := rB HO524 hb
           replace BK430 := kB BK430 hb
           replace BK450 := kB BK450 hb
           replace BK458 := kB BK458 hb
           replace BK466 := kB BK466 hb
           replace BK474 := kB BK474 hb
           replace BK482 := kB BK482 hb
           replace BK518 := kB BK518 hb
           replace BK526 := kB BK526 hb
           replace HB := bS HB hb
           (try clear hb)
           (try clear hb2)
           (try clear hk)
           (try clear hi)
           refine hK.out _ _ ⟨(blk_cell BK430.out 0).trans rfl, (blk_cell BK430.out 1).trans rfl, (blk_cell BK466.out 0).trans rfl, (blk_cell BK466.out 1).trans rfl, (blk_cell BK518.out 0).trans rfl, (blk_cell BK518.out 1).trans rfl, (blk_cell BK526.out 0).trans rfl, (blk_cell BK526.out 1).trans rfl⟩ (fun hHeld => ?_)
           clear hK K
           refine norm_ (a' := ?_) ?_ ?_
           rotate_left
           ·show Act.put _ (some 263) _ = _
            simp only [Act.put, List.setIfInBounds_toArray, List.set_cons_zero, List.set_cons_succ, i64_w, i32_w]
            rfl
           refine pV 16 264 (tf 17 22) HT_ ?_
           refine pV 17 265 (tf 18 21) HT_ ?_
           refine tV 18 266 (tf 19 20) HT_ HW_ hHeld ?_
           refine tV 20 268 (tB 39 1572863) HT_ HW_ hHeld ?_
           refine eN 19 (some 267) (tf 21 18) HT_ (fun K hK => ?_)
           refine goes_ Try.func18 (by kernel_rfl) rfl #[.agg #[.slice A0 l0.length c0, .slice A1 l1.length c1]] (by rfl) rfl rfl (by (try simp only [List.map_toArray, List.map_cons, List.map_nil]); first | done | rfl | (simp only [List.length_drop, List.length_take]; rfl)) ?_
           with_reducible refine (impl_MapTurns.calls kj135 _ _ l0 _ _ l1 t529 _ ?side1 ?side2 ?side3 ?side4 A153.out).mono ?_
           (case side1 => exact cB HR0 HB)
           (case side2 => exact HC0.out)
           (case side3 => exact cB HR1 HB)
           (case side4 => exact HC1.out)
           rintro e w200 ⟨rfl, hb⟩
           refine ⟨_, rfl, ?_⟩
           as_aux_lemma =>
           replace HO_9 := rB HO_9 hb
           replace HO_451000 := rB HO_451000 hb
           replace HO_451001 := rB HO_451001 hb
           replace HO_459000 := rB HO_459000 hb
           replace HO_459001 := rB HO_459001 hb
           replace HO_467000 := rB HO_467000 hb
           replace HO_467001 := rB HO_467001 hb
           replace HO_475000 := rB HO_475000 hb
           replace HO_475001 := rB HO_475001 hb
           replace HO_483000 := rB HO_483000 hb
           replace HO_483001 := rB HO_483001 hb
           replace HO509 := rB HO509 hb
           replace HO513 := rB HO513 hb
           replace HO516 := rB HO516 hb
           replace HO521 := rB HO521 hb
           replace HO524 := rB HO524 hb
           replace BK430 := kB BK430 hb
           replace BK450 := kB BK450 hb
           replace BK458 := kB BK458 hb
           replace BK466 := kB BK466 hb
           replace BK474 := kB BK474 hb
           replace BK482 := kB BK482 hb
           replace BK518 := kB BK518 hb
           replace BK526 := kB BK526 hb
           replace HB := bS HB hb
           (try clear hb)
           (try clear hb2)
           (try clear hk)
           (try clear hi)
           refine hK.out _ _ ⟨(blk_cell BK430.out 0).trans rfl, (blk_cell BK430.out 1).trans rfl, (blk_cell BK466.out 0).trans rfl, (blk_cell BK466.out 1).trans rfl, (blk_cell BK518.out 0).trans rfl, (blk_cell BK518.out 1).trans rfl, (blk_cell BK526.out 0).trans rfl, (blk_cell BK526.out 1).trans rfl⟩ (fun hHeld => ?_)
           as_aux_lemma =>
           clear hK K
           refine norm_ (a' := ?_) ?_ ?_
           rotate_left
           ·show Act.put _ (some 267) _ = _
            simp only [Act.put, List.setIfInBounds_toArray, List.set_cons_zero, List.set_cons_succ, i64_w, i32_w]
            rfl
           refine eN 21 (some 269) (tf 22 17) HT_ (fun K hK => ?_)
           refine goes_ Try.func18 (by kernel_rfl) rfl #[.agg #[.slice Ao63 t459.length co63, .slice Ao68 t462.length co68]] (by rfl) rfl rfl (by (try simp only [List.map_toArray, List.map_cons, List.map_nil]); first | done | rfl | (simp only [List.length_drop, List.length_take]; rfl)) ?_
           with_reducible refine (impl_MapTurns.calls kj135 _ _ t459 _ _ t462 t530 _ ?side1 ?side2 ?side3 ?side4 A154.out).mono ?_
           (case side1 => exact cP (Kd.R_reads' HO_467000.out).2.2)
           (case side2 => exact (Kd.R_reads' HO_467000.out).2.1)
           (case side3 => exact cP (Kd.R_reads' HO_467001.out).2.2)
           (case side4 => exact (Kd.R_reads' HO_467001.out).2.1)
           rintro e w201 ⟨rfl, hb⟩
           refine ⟨_, rfl, ?_⟩
           replace HO_9 := rB HO_9 hb
           replace HO_451000 := rB HO_451000 hb
           replace HO_451001 := rB HO_451001 hb
           replace HO_459000 := rB HO_459000 hb
           replace HO_459001 := rB HO_459001 hb
           replace HO_467000 := rB HO_467000 hb
           replace HO_467001 := rB HO_467001 hb
           replace HO_475000 := rB HO_475000 hb
           replace HO_475001 := rB HO_475001 hb
           replace HO_483000 := rB HO_483000 hb
           replace HO_483001 := rB HO_483001 hb
           replace HO509 := rB HO509 hb
           replace HO513 := rB HO513 hb
           replace HO516 := rB HO516 hb
           replace HO521 := rB HO521 hb
           as_aux_lemma =>
           replace HO524 := rB HO524 hb
           replace BK430 := kB BK430 hb
           replace BK450 := kB BK450 hb
           replace BK458 := kB BK458 hb
           replace BK466 := kB BK466 hb
           replace BK474 := kB BK474 hb
           replace BK482 := kB BK482 hb
           replace BK518 := kB BK518 hb
           replace BK526 := kB BK526 hb
           replace HB := bS HB hb
           (try clear hb)
           (try clear hb2)
           (try clear hk)
           (try clear hi)
           refine hK.out _ _ ⟨(blk_cell BK430.out 0).trans rfl, (blk_cell BK430.out 1).trans rfl, (blk_cell BK466.out 0).trans rfl, (blk_cell BK466.out 1).trans rfl, (blk_cell BK518.out 0).trans rfl, (blk_cell BK518.out 1).trans rfl, (blk_cell BK526.out 0).trans rfl, (blk_cell BK526.out 1).trans rfl⟩ (fun hHeld => ?_)
           clear hK K
           refine norm_ (a' := ?_) ?_ ?_
           rotate_left
           ·show Act.put _ (some 269) _ = _
            simp only [Act.put, List.setIfInBounds_toArray, List.set_cons_zero, List.set_cons_succ, i64_w, i32_w]
            rfl
           refine pV 22 270 (tf 23 16) HT_ ?_
           refine pV 23 271 (tf 24 15) HT_ ?_
           refine pV 24 272 (tf 25 14) HT_ ?_
           refine pV 25 273 (tf 26 13) HT_ ?_
           refine pV 27 275 (tB 39 201326591) HT_ ?_
           refine tV 26 274 (tf 28 11) HT_ HW_ hHeld ?_
           refine tV 28 276 (tf 29 10) HT_ HW_ hHeld ?_
           refine eN 29 (some 277) (tf 30 9) HT_ (fun K hK => ?_)
           refine goes_ Try.func15 (by kernel_rfl) rfl #[.slice Ao173 t511.length co173, .slice Ao185 t519.length co185] (by rfl) rfl rfl (by (try simp only [List.map_toArray, List.map_cons, List.map_nil]); first | done | rfl | (simp only [List.length_drop, List.length_take]; rfl)) ?_
           with_reducible refine (laws_sameInts.calls kj135 _ _ t511 _ _ t519 true _ ?side1 ?side2 ?side3 ?side4 A156.out).mono ?_
           (case side1 => exact cP (Kd.R_reads' HO513.out).2.2)
           (case side2 => exact (Kd.R_reads' HO513.out).2.1)
           (case side3 => exact cP (Kd.R_reads' HO521.out).2.2)
           (case side4 => exact (Kd.R_reads' HO521.out).2.1)
           rintro e w' ⟨rfl, ⟨nd, rfl⟩⟩
           refine ⟨_, rfl, ?_⟩
           refine hK.out _ _ ⟨(blk_cell BK430.out 0).trans rfl, (blk_cell BK430.out 1).trans rfl, (blk_cell BK466.out 0).trans rfl, (blk_cell BK466.out 1).trans rfl, (blk_cell BK518.out 0).trans rfl, (blk_cell BK518.out 1).trans rfl, (blk_cell BK526.out 0).trans rfl, (blk_cell BK526.out 1).trans rfl⟩ (fun hHeld => ?_)
           as_aux_lemma =>
           clear hK K
           refine norm_ (a' := ?_) ?_ ?_
           rotate_left
           ·show Act.put _ (some 277) _ = _
            simp only [Act.put, List.setIfInBounds_toArray, List.set_cons_zero, List.set_cons_succ, i64_w, i32_w]
            rfl
           refine pV 30 278 (tf 31 8) HT_ ?_
           refine pV 31 279 (tf 32 7) HT_ ?_
           refine pV 32 280 (tf 33 6) HT_ ?_
           refine pV 34 282 (tB 39 25769803775) HT_ ?_
           refine tV 33 281 (tf 35 4) HT_ HW_ hHeld ?_
           refine tV 35 283 (tf 36 3) HT_ HW_ hHeld ?_
           refine eN 36 (some 284) (tf 37 2) HT_ (fun K hK => ?_)
           refine goes_ Try.func15 (by kernel_rfl) rfl #[.slice Ao181 t514.length co181, .slice Ao194 t522.length co194] (by rfl) rfl rfl (by (try simp only [List.map_toArray, List.map_cons, List.map_nil]); first | done | rfl | (simp only [List.length_drop, List.length_take]; rfl)) ?_
           with_reducible refine (laws_sameInts.calls kj135 _ _ t514 _ _ t522 t532 _ ?side1 ?side2 ?side3 ?side4 A158.out).mono ?_
           (case side1 => exact cP (Kd.R_reads' HO516.out).2.2)
           (case side2 => exact (Kd.R_reads' HO516.out).2.1)
           (case side3 => exact cP (Kd.R_reads' HO524.out).2.2)
           (case side4 => exact (Kd.R_reads' HO524.out).2.1)
           rintro e w' ⟨rfl, ⟨nd, rfl⟩⟩
           refine ⟨_, rfl, ?_⟩
           refine hK.out _ _ ⟨(blk_cell BK430.out 0).trans rfl, (blk_cell BK430.out 1).trans rfl, (blk_cell BK466.out 0).trans rfl, (blk_cell BK466.out 1).trans rfl, (blk_cell BK518.out 0).trans rfl, (blk_cell BK518.out 1).trans rfl, (blk_cell BK526.out 0).trans rfl, (blk_cell BK526.out 1).trans rfl⟩ (fun hHeld => ?_)
           clear hK K
           refine norm_ (a' := ?_) ?_ ?_
           rotate_left
           ·show Act.put _ (some 284) _ = _
            simp only [Act.put, List.setIfInBounds_toArray, List.set_cons_zero, List.set_cons_succ, i64_w, i32_w]
            rfl
           refine pV 37 285 (tf 38 1) HT_ ?_
           refine pV 38 6 (tf 39 0) HT_ ?_
           refine done_ (done_of HT_.out (by kernel_rfl)) ?_
           try go_wp2
           go_ret
           exact ⟨eR, bP HB⟩
       ·replace c39 := Bool.eq_false_iff.mpr c39
        subst c39
        as_aux_lemma =>
        rw [iF] at H
        by_cases c202 : t436 = (-1)
        ·rw [if_pos c202] at H
         have c202b0 : (t436 == (-1)) = true := beq_iff_eq.mpr c202
         have c202b1 : (t436 != (-1)) = false := bne_eq_false_iff_eq.mpr c202
         clear c202
         by_cases c203 : t449 = true
         ·subst c203
          rw [if_pos rfl] at H
          exact absurd ((Option.some.inj H).trans hr_.out) (by decide)
         replace c203 := Bool.eq_false_iff.mpr c203
         subst c203
         rw [iF] at H
         by_cases c204 : t457 = true
         ·subst c204
          rw [if_pos rfl] at H
          exact absurd ((Option.some.inj H).trans hr_.out) (by decide)
         replace c204 := Bool.eq_false_iff.mpr c204
         subst c204
         rw [iF] at H
         obtain rfl := Option.some.inj H
         have hcz205_0 := zc0 BK430
         have hcz205_1 := zc1 BK430
         have hfz205_0 := blk_frozen BK430.out 0
         have hfz205_1 := blk_frozen BK430.out 1
         go_wp2_with (first | ((with_reducible refine gate_callee (f := 12) rfl ?_); refine gL (some 79) Try.func12 #[.agg #[.slice A0 l0.length c0, .slice A1 l1.length c1]] ?_; (with_reducible refine (impl_MapDual.calls kj10 _ _ l0 _ _ l1 t443 t446 false _ ?side1 ?side2 ?side3 ?side4 A36.out).mono ?_); (case side1 => exact cB HR0 HB); (case side2 => exact HC0.out); (case side3 => exact cB HR1 HB); (case side4 => exact HC1.out); rintro e w206 ⟨v444, v447, rfl, ho0, ho1, hb⟩; refine ⟨_, rfl, ?_⟩; have HO445 := Aside0.mk (Kd.R_lower (Kd.R_new' ho0 (Kd.R_lt (rP HO_9))) (below_size (bP HB))); have HO448 := Aside0.mk (Kd.R_lower (Kd.R_new' ho1 (Kd.R_lt (rP HO_9))) (below_size (bP HB))); replace HO_9 := Aside0.mk (Kd.R_mono (Kd.R_told (Kd.R_told (Kd.R_old (rP HO_9) hb) (Kd.R_base ho0)) (Kd.R_base ho1)) (fun _ h_ => h_.1)); replace BK430 := kB BK430 hb; replace HB := bS HB hb; (try clear hb); (try clear hb2); (try clear hk); (try clear hi); (try clear ho0); (try clear ho1)) | ((with_reducible refine gate_dst (N := 12) rfl ?_); (try (refine gate_guard (by rfl) ?_; dsimp only)); refine bE 12 #[.slice none 0 0, .slice none 0 0] 24 ?_; intro gb450 hg w207 hbox hb; replace HO_9 := rB HO_9 hb; replace HO445 := rB HO445 hb; replace HO448 := rB HO448 hb; have BK450 := Aside0.mk (hbox); have GW450 := gS HB hg; have GE450 := gS HB hg; replace HB := bS HB hb; have NB430_450 := nL BK430 hg; have NB450_430 := nG BK430 hg; replace BK430 := kB BK430 hb; clear hb hbox hg; obtain ⟨Ao208, co208, eo208⟩ := Kd.R_slice HO445.out; subst eo208; have hnb209 := NB450_430.out; have hnc209 := NB430_450.out; have hcz210_0 := zc0 BK450; have hcz210_1 := zc1 BK450; have hfz210_0 := blk_frozen BK450.out 0; have hfz210_1 := blk_frozen BK450.out 1; obtain ⟨Ao211, co211, eo211⟩ := Kd.R_slice HO448.out; subst eo211; have hcz212_0 := zc0 BK430; have hcz212_1 := zc1 BK430; have hfz212_0 := blk_frozen BK430.out 0; have hfz212_1 := blk_frozen BK430.out 1) | ((with_reducible refine gate_callee (f := 13) rfl ?_); refine gL (some 84) Try.func13 #[.agg #[.slice A0 l0.length c0, .slice A1 l1.length c1]] ?_; (with_reducible refine (impl_MapMirror.calls kj10 _ _ l0 _ _ l1 t451 t454 false _ ?side1 ?side2 ?side3 ?side4 A37.out).mono ?_); (case side1 => exact Kd.C_below HR0.out (bP HB)); (case side2 => exact HC0.out); (case side3 => exact Kd.C_below HR1.out (bP HB)); (case side4 => exact HC1.out); rintro e w213 ⟨v452, v455, rfl, ho0, ho1, hb⟩; refine ⟨_, rfl, ?_⟩; have HO453 := Aside0.mk (Kd.R_lower (Kd.R_new' (Kd.R_new' (Kd.R_new' ho0 (Kd.R_lt (rT (Kd.R_mono (rF gb450 1 (rF gb450 0 (rY HO_9 BK450) (.slice Ao208 t443.length co208)) (.slice Ao211 t446.length co211)) (fun _ h_ => h_.1))))) (Kd.R_lt (rT (Kd.R_mono (rF gb450 1 (rF gb450 0 (rY HO445 BK450) (.slice Ao208 t443.length co208)) (.slice Ao211 t446.length co211)) (fun _ h_ => h_.1))))) (Kd.R_lt (rT (Kd.R_mono (rF gb450 1 (rF gb450 0 (rY HO448 BK450) (.slice Ao208 t443.length co208)) (.slice Ao211 t446.length co211)) (fun _ h_ => h_.1))))) (below_size (bP HB))); have HO456 := Aside0.mk (Kd.R_lower (Kd.R_new' (Kd.R_new' (Kd.R_new' ho1 (Kd.R_lt (rT (Kd.R_mono (rF gb450 1 (rF gb450 0 (rY HO_9 BK450) (.slice Ao208 t443.length co208)) (.slice Ao211 t446.length co211)) (fun _ h_ => h_.1))))) (Kd.R_lt (rT (Kd.R_mono (rF gb450 1 (rF gb450 0 (rY HO445 BK450) (.slice Ao208 t443.length co208)) (.slice Ao211 t446.length co211)) (fun _ h_ => h_.1))))) (Kd.R_lt (rT (Kd.R_mono (rF gb450 1 (rF gb450 0 (rY HO448 BK450) (.slice Ao208 t443.length co208)) (.slice Ao211 t446.length co211)) (fun _ h_ => h_.1))))) (below_size (bP HB))); replace HO_9 := Aside0.mk (Kd.R_mono (Kd.R_told (Kd.R_told (Kd.R_old (rT (Kd.R_mono (rF gb450 1 (rF gb450 0 (rY HO_9 BK450) (.slice Ao208 t443.length co208)) (.slice Ao211 t446.length co211)) (fun _ h_ => h_.1))) hb) (Kd.R_base ho0)) (Kd.R_base ho1)) (fun _ h_ => h_.1)); replace HO445 := Aside0.mk (Kd.R_mono (Kd.R_told (Kd.R_told (Kd.R_old (rT (Kd.R_mono (rF gb450 1 (rF gb450 0 (rY HO445 BK450) (.slice Ao208 t443.length co208)) (.slice Ao211 t446.length co211)) (fun _ h_ => h_.1))) hb) (Kd.R_base ho0)) (Kd.R_base ho1)) (fun _ h_ => h_.1)); replace HO448 := Aside0.mk (Kd.R_mono (Kd.R_told (Kd.R_told (Kd.R_old (rT (Kd.R_mono (rF gb450 1 (rF gb450 0 (rY HO448 BK450) (.slice Ao208 t443.length co208)) (.slice Ao211 t446.length co211)) (fun _ h_ => h_.1))) hb) (Kd.R_base ho0)) (Kd.R_base ho1)) (fun _ h_ => h_.1)); replace BK430 := kG BK430 hb; replace BK450 := Aside0.mk (blk_below (g := gb450) (o := .cells #[.slice Ao208 t443.length co208, .slice Ao211 t446.length co211] 24 (0, 0)) (by (with_reducible repeat (first | refine blk_drewN ?_ _ | refine blk_drew ?_ | refine blk_alloc ?_ _)); refine blk_put (cs := #[.slice Ao208 t443.length co208, .slice none 0 0]) ?_ 1 _ rfl; (with_reducible repeat (first | refine blk_drewN ?_ _ | refine blk_drew ?_ | refine blk_alloc ?_ _)); refine blk_put (cs := #[.slice none 0 0, .slice none 0 0]) ?_ 0 _ rfl; (with_reducible repeat (first | refine blk_drewN ?_ _ | refine blk_drew ?_ | refine blk_alloc ?_ _)); exact BK450.out) hb); replace HB := bS HB hb; (try clear hb); (try clear hb2); (try clear hk); (try clear hi); (try clear ho0); (try clear ho1)) | ((with_reducible refine gate_dst (N := 14) rfl ?_); (try (refine gate_guard (by rfl) ?_; dsimp only)); refine bE 14 #[.slice none 0 0, .slice none 0 0] 24 ?_; intro gb458 hg w214 hbox hb; replace HO_9 := rB HO_9 hb; replace HO445 := rB HO445 hb; replace HO448 := rB HO448 hb; replace HO453 := rB HO453 hb; replace HO456 := rB HO456 hb; have BK458 := Aside0.mk (hbox); have GW458 := gS HB hg; have GE458 := gS HB hg; replace HB := bS HB hb; have NB430_458 := nL BK430 hg; have NB458_430 := nG BK430 hg; replace BK430 := kB BK430 hb; have NB450_458 := nL BK450 hg; have NB458_450 := nG BK450 hg; replace BK450 := kB BK450 hb; clear hb hbox hg; obtain ⟨Ao215, co215, eo215⟩ := Kd.R_slice HO453.out; subst eo215; have hnb216 := NB458_430.out; have hnc216 := NB430_458.out; have hnb217 := NB458_450.out; have hnc217 := NB450_458.out; have hcz218_0 := zc0 BK458; have hcz218_1 := zc1 BK458; have hfz218_0 := blk_frozen BK458.out 0; have hfz218_1 := blk_frozen BK458.out 1; obtain ⟨Ao219, co219, eo219⟩ := Kd.R_slice HO456.out; subst eo219; have hcz220_0 := zc0 BK430; have hcz220_1 := zc1 BK430; have hfz220_0 := blk_frozen BK430.out 0; have hfz220_1 := blk_frozen BK430.out 1) | ((with_reducible refine gate_callee (f := 14) rfl ?_); refine gL (some 90) Try.func14 #[.agg #[.slice A0 l0.length c0, .slice A1 l1.length c1], .slice A2 l2.length c2] ?_; (with_reducible refine (impl_MapRename.calls kj10 _ _ l0 _ _ l1 _ _ l2 t459 t462 t465 _ ?side1 ?side2 ?side3 ?side4 ?side5 ?side6 A38.out).mono ?_); (case side1 => exact Kd.C_below HR0.out (bP HB)); (case side2 => exact HC0.out); (case side3 => exact Kd.C_below HR1.out (bP HB)); (case side4 => exact HC1.out); (case side5 => exact Kd.C_below HR2.out (bP HB)); (case side6 => exact HC2.out); rintro e w221 ⟨v460, v463, rfl, ho0, ho1, hb⟩; refine ⟨_, rfl, ?_⟩; have HO461 := Aside0.mk (Kd.R_lower (Kd.R_new' (Kd.R_new' (Kd.R_new' (Kd.R_new' (Kd.R_new' ho0 (Kd.R_lt (rT (Kd.R_mono (rF gb458 1 (rF gb458 0 (rY HO_9 BK458) (.slice Ao215 t451.length co215)) (.slice Ao219 t454.length co219)) (fun _ h_ => h_.1))))) (Kd.R_lt (rT (Kd.R_mono (rF gb458 1 (rF gb458 0 (rY HO445 BK458) (.slice Ao215 t451.length co215)) (.slice Ao219 t454.length co219)) (fun _ h_ => h_.1))))) (Kd.R_lt (rT (Kd.R_mono (rF gb458 1 (rF gb458 0 (rY HO448 BK458) (.slice Ao215 t451.length co215)) (.slice Ao219 t454.length co219)) (fun _ h_ => h_.1))))) (Kd.R_lt (rT (Kd.R_mono (rF gb458 1 (rF gb458 0 (rY HO453 BK458) (.slice Ao215 t451.length co215)) (.slice Ao219 t454.length co219)) (fun _ h_ => h_.1))))) (Kd.R_lt (rT (Kd.R_mono (rF gb458 1 (rF gb458 0 (rY HO456 BK458) (.slice Ao215 t451.length co215)) (.slice Ao219 t454.length co219)) (fun _ h_ => h_.1))))) (below_size (bP HB))); have HO464 := Aside0.mk (Kd.R_lower (Kd.R_new' (Kd.R_new' (Kd.R_new' (Kd.R_new' (Kd.R_new' ho1 (Kd.R_lt (rT (Kd.R_mono (rF gb458 1 (rF gb458 0 (rY HO_9 BK458) (.slice Ao215 t451.length co215)) (.slice Ao219 t454.length co219)) (fun _ h_ => h_.1))))) (Kd.R_lt (rT (Kd.R_mono (rF gb458 1 (rF gb458 0 (rY HO445 BK458) (.slice Ao215 t451.length co215)) (.slice Ao219 t454.length co219)) (fun _ h_ => h_.1))))) (Kd.R_lt (rT (Kd.R_mono (rF gb458 1 (rF gb458 0 (rY HO448 BK458) (.slice Ao215 t451.length co215)) (.slice Ao219 t454.length co219)) (fun _ h_ => h_.1))))) (Kd.R_lt (rT (Kd.R_mono (rF gb458 1 (rF gb458 0 (rY HO453 BK458) (.slice Ao215 t451.length co215)) (.slice Ao219 t454.length co219)) (fun _ h_ => h_.1))))) (Kd.R_lt (rT (Kd.R_mono (rF gb458 1 (rF gb458 0 (rY HO456 BK458) (.slice Ao215 t451.length co215)) (.slice Ao219 t454.length co219)) (fun _ h_ => h_.1))))) (below_size (bP HB))); replace HO_9 := Aside0.mk (Kd.R_mono (Kd.R_told (Kd.R_told (Kd.R_old (rT (Kd.R_mono (rF gb458 1 (rF gb458 0 (rY HO_9 BK458) (.slice Ao215 t451.length co215)) (.slice Ao219 t454.length co219)) (fun _ h_ => h_.1))) hb) (Kd.R_base ho0)) (Kd.R_base ho1)) (fun _ h_ => h_.1)); replace HO445 := Aside0.mk (Kd.R_mono (Kd.R_told (Kd.R_told (Kd.R_old (rT (Kd.R_mono (rF gb458 1 (rF gb458 0 (rY HO445 BK458) (.slice Ao215 t451.length co215)) (.slice Ao219 t454.length co219)) (fun _ h_ => h_.1))) hb) (Kd.R_base ho0)) (Kd.R_base ho1)) (fun _ h_ => h_.1)); replace HO448 := Aside0.mk (Kd.R_mono (Kd.R_told (Kd.R_told (Kd.R_old (rT (Kd.R_mono (rF gb458 1 (rF gb458 0 (rY HO448 BK458) (.slice Ao215 t451.length co215)) (.slice Ao219 t454.length co219)) (fun _ h_ => h_.1))) hb) (Kd.R_base ho0)) (Kd.R_base ho1)) (fun _ h_ => h_.1)); replace HO453 := Aside0.mk (Kd.R_mono (Kd.R_told (Kd.R_told (Kd.R_old (rT (Kd.R_mono (rF gb458 1 (rF gb458 0 (rY HO453 BK458) (.slice Ao215 t451.length co215)) (.slice Ao219 t454.length co219)) (fun _ h_ => h_.1))) hb) (Kd.R_base ho0)) (Kd.R_base ho1)) (fun _ h_ => h_.1)); replace HO456 := Aside0.mk (Kd.R_mono (Kd.R_told (Kd.R_told (Kd.R_old (rT (Kd.R_mono (rF gb458 1 (rF gb458 0 (rY HO456 BK458) (.slice Ao215 t451.length co215)) (.slice Ao219 t454.length co219)) (fun _ h_ => h_.1))) hb) (Kd.R_base ho0)) (Kd.R_base ho1)) (fun _ h_ => h_.1)); replace BK430 := kG BK430 hb; replace BK450 := kG BK450 hb; replace BK458 := Aside0.mk (blk_below (g := gb458) (o := .cells #[.slice Ao215 t451.length co215, .slice Ao219 t454.length co219] 24 (0, 0)) (by (with_reducible repeat (first | refine blk_drewN ?_ _ | refine blk_drew ?_ | refine blk_alloc ?_ _)); refine blk_put (cs := #[.slice Ao215 t451.length co215, .slice none 0 0]) ?_ 1 _ rfl; (with_reducible repeat (first | refine blk_drewN ?_ _ | refine blk_drew ?_ | refine blk_alloc ?_ _)); refine blk_put (cs := #[.slice none 0 0, .slice none 0 0]) ?_ 0 _ rfl; (with_reducible repeat (first | refine blk_drewN ?_ _ | refine blk_drew ?_ | refine blk_alloc ?_ _)); exact BK458.out) hb); replace HB := bS HB hb; (try clear hb); (try clear hb2); (try clear hk); (try clear hi); (try clear ho0); (try clear ho1)) | ((with_reducible refine gate_dst (N := 16) rfl ?_); (try (refine gate_guard (by rfl) ?_; dsimp only)); refine bE 16 #[.slice none 0 0, .slice none 0 0] 24 ?_; intro gb466 hg w222 hbox hb; replace HO_9 := rB HO_9 hb; replace HO445 := rB HO445 hb; replace HO448 := rB HO448 hb; replace HO453 := rB HO453 hb; replace HO456 := rB HO456 hb; replace HO461 := rB HO461 hb; replace HO464 := rB HO464 hb; have BK466 := Aside0.mk (hbox); have GW466 := gS HB hg; have GE466 := gS HB hg; replace HB := bS HB hb; have NB430_466 := nL BK430 hg; have NB466_430 := nG BK430 hg; replace BK430 := kB BK430 hb; have NB450_466 := nL BK450 hg; have NB466_450 := nG BK450 hg; replace BK450 := kB BK450 hb; have NB458_466 := nL BK458 hg; have NB466_458 := nG BK458 hg; replace BK458 := kB BK458 hb; clear hb hbox hg; obtain ⟨Ao223, co223, eo223⟩ := Kd.R_slice HO461.out; subst eo223; have hnb224 := NB466_430.out; have hnc224 := NB430_466.out; have hnb225 := NB466_450.out; have hnc225 := NB450_466.out; have hnb226 := NB466_458.out; have hnc226 := NB458_466.out; have hcz227_0 := zc0 BK466; have hcz227_1 := zc1 BK466; have hfz227_0 := blk_frozen BK466.out 0; have hfz227_1 := blk_frozen BK466.out 1; obtain ⟨Ao228, co228, eo228⟩ := Kd.R_slice HO464.out; subst eo228))
         go_ret
         exact ⟨eR, bP HB⟩
        ·rw [if_neg c202] at H
         have c202b0 : (t436 == (-1)) = false := beq_eq_false_iff_ne.mpr c202
         as_aux_lemma =>
         have c202b1 : (t436 != (-1)) = true := bne_iff_ne.mpr c202
         exact absurd ((Option.some.inj H).trans hr_.out) (by decide)

/-- THE ONE PURE STATEMENT of laws_FnMapWhole: yours. -/
def laws_FnMapWhole.Pure : Prop := ∀ (l0 : List Int) (l1 : List Int) (l2 : List Int), l0.length ≤ maxLen → l0.length * 8 ≤ 140737488351232 → (∀ x ∈ l0, (Lit.int .i64 x).wf = true) → l1.length ≤ maxLen → l1.length * 8 ≤ 140737488351232 → (∀ x ∈ l1, (Lit.int .i64 x).wf = true) → l2.length ≤ maxLen → l2.length * 8 ≤ 140737488351232 → (∀ x ∈ l2, (Lit.int .i64 x).wf = true) → ∃ k, laws_FnMapWhole.f k l0 l1 l2 = some true
theorem laws_FnMapWhole.walk (P : laws_FnMapWhole.Pure) (a0 : Option Addr) (len0 cap0 : Nat) (z0 : List Int) (a1 : Option Addr) (len1 cap1 : Nat) (z1 : List Int) (a2 : Option Addr) (len2 cap2 : Nat) (z2 : List Int) (w : World) (w0 : (a0 = none ∧ len0 = 0 ∧ cap0 = 0 ∧ z0 = []) ∨ ∃ x, a0 = some x ∧ len0 ≤ cap0 ∧ cap0 ≤ maxLen ∧ z0.length = cap0 ∧ (∀ i, i < z0.length → w.cell? (x.add i) = some (.int .i64 (z0.getD i 0))) ∧ ∀ n ∈ z0, (Lit.int .i64 n).wf = true) (y0 : len0 * 8 ≤ 140737488351232) (w1 : (a1 = none ∧ len1 = 0 ∧ cap1 = 0 ∧ z1 = []) ∨ ∃ x, a1 = some x ∧ len1 ≤ cap1 ∧ cap1 ≤ maxLen ∧ z1.length = cap1 ∧ (∀ i, i < z1.length → w.cell? (x.add i) = some (.int .i64 (z1.getD i 0))) ∧ ∀ n ∈ z1, (Lit.int .i64 n).wf = true) (y1 : len1 * 8 ≤ 140737488351232) (w2 : (a2 = none ∧ len2 = 0 ∧ cap2 = 0 ∧ z2 = []) ∨ ∃ x, a2 = some x ∧ len2 ≤ cap2 ∧ cap2 ≤ maxLen ∧ z2.length = cap2 ∧ (∀ i, i < z2.length → w.cell? (x.add i) = some (.int .i64 (z2.getD i 0))) ∧ ∀ n ∈ z2, (Lit.int .i64 n).wf = true) (y2 : len2 * 8 ≤ 140737488351232) :
 Calls Try.prog 3 #[.slice a0 len0 cap0, .slice a1 len1 cap1, .slice a2 len2 cap2] w fun e w' => e = .returned (.bool true) ∧ Below w.heap.size w w' := by
 obtain ⟨l0, rfl, hr0, hm0, hw0, hc0⟩ := ReadsInt.ofRowC w0
 obtain ⟨l1, rfl, hr1, hm1, hw1, hc1⟩ := ReadsInt.ofRowC w1
 obtain ⟨l2, rfl, hr2, hm2, hw2, hc2⟩ := ReadsInt.ofRowC w2
 obtain ⟨k, h⟩ := P l0 l1 l2 hm0 y0 hw0 hm1 y1 hw1 hm2 y2 hw2
 refine (laws_FnMapWhole.calls k _ _ l0 _ _ l1 _ _ l2 true w (Kd.C_of_reads (d := (0 : Int)) (h1 := fun _ => rfl) hr0) hc0 (Kd.C_of_reads (d := (0 : Int)) (h1 := fun _ => rfl) hr1) hc1 (Kd.C_of_reads (d := (0 : Int)) (h1 := fun _ => rfl) hr2) hc2 ⟨rfl⟩ h).mono ?_
 rintro e w' ⟨rfl, hd⟩
 exact ⟨rfl, hd⟩

end Go.Proofs.Ytmjdmahgkidocaa.F
