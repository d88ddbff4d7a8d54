/- Contracts: what these Go functions return. -/
import Derived.Test.YtcclnblabaoofaaF0
namespace Go.Proofs.Ytcclnblabaoofaa.F
open Go.RowKit Go.Proofs.YtcclnblabaoofaaW.PrintWords Go.Proofs.YtcclnblabaoofaaW.PrintLast Go.Proofs.YtcclnblabaoofaaW.PrintMore
attribute [local go_sem] max2_int min2_int max_two min_two max_three min_three max_four min_four
set_option linter.unusedVariables false
set_option linter.unusedSimpArgs false

/-! ### spec_l3Table: function 27 -/
mutual
def spec_l3Table.l0 : Nat → Int → List (List Int) → Int → Option ((List (List Int)))
 | 0, _, _, _ => none
 | k + 1, x0, x3, x4 => if x4 ≤ 5 then (if 0 ≤ (wrap64 (x0 + 1)) then (if (wrap64 (x0 + 1) : Int).toNat ≤ 35184372088832 then (if x3.length < 5864062014805 then (spec_l3Table.l0 k x0 (x3 ++ [(List.replicate (wrap64 (x0 + 1) : Int).toNat 0)]) (wrap64 (x4 + 1))) else (none)) else (none)) else (none)) else (if 0 < (x3.length : Int) then (if 0 < ((rd_L1 x3 0).length : Int) then (spec_l3Table.l1 k x0 (x3.set (0 : Int).toNat ((rd_L1 x3 0).set (0 : Int).toNat 1)) 1) else (none)) else (none))
def spec_l3Table.l1 : Nat → Int → List (List Int) → Int → Option ((List (List Int)))
 | 0, _, _, _ => none
 | k + 1, x0, x3, x5 => if x5 ≤ x0 then (spec_l3Table.l2 k x0 x3 x5 0) else (some x3)
def spec_l3Table.l2 : Nat → Int → List (List Int) → Int → Int → Option ((List (List Int)))
 | 0, _, _, _, _ => none
 | k + 1, x0, x3, x5, x6 => if x6 ≤ 5 then (if 0 ≤ x6 then (if x6 < (x3.length : Int) then (if 0 ≤ (wrap64 (x5 - 1)) then (if (wrap64 (x5 - 1)) < ((rd_L1 x3 x6).length : Int) then (if x6 > 0 then (spec_l3Table.j3 k x0 x3 x5 x6 (wrap64 ((wrap64 (4 * (wrap64 ((wrap64 (4 * x5)) - 2)))) * (rd (rd_L1 x3 x6) (wrap64 (x5 - 1))))) (decide (x5 > 1))) else (spec_l3Table.j3 k x0 x3 x5 x6 (wrap64 ((wrap64 (4 * (wrap64 ((wrap64 (4 * x5)) - 2)))) * (rd (rd_L1 x3 x6) (wrap64 (x5 - 1))))) false)) else (none)) else (none)) else (none)) else (none)) else (spec_l3Table.l1 k x0 x3 (wrap64 (x5 + 1)))
def spec_l3Table.j3 : Nat → Int → List (List Int) → Int → Int → Int → Bool → Option ((List (List Int)))
 | 0, _, _, _, _, _, _ => none
 | k + 1, x0, x3, x5, x6, x7, x52 => if x52 = true then (if 0 ≤ (wrap64 (x6 - 1)) then (if (wrap64 (x6 - 1)) < (x3.length : Int) then (if 0 ≤ (wrap64 (x5 - 2)) then (if (wrap64 (x5 - 2)) < ((rd_L1 x3 (wrap64 (x6 - 1))).length : Int) then (spec_l3Table.j4 k x0 x3 x5 x6 (wrap64 (x7 + (wrap64 ((wrap64 ((wrap64 ((wrap64 ((wrap64 (2 * x5)) - 3)) * (wrap64 ((wrap64 (2 * x5)) - 2)))) * (wrap64 ((wrap64 (2 * x5)) - 1)))) * (rd (rd_L1 x3 (wrap64 (x6 - 1))) (wrap64 (x5 - 2)))))))) else (none)) else (none)) else (none)) else (none)) else (spec_l3Table.j4 k x0 x3 x5 x6 x7)
def spec_l3Table.j4 : Nat → Int → List (List Int) → Int → Int → Int → Option ((List (List Int)))
 | 0, _, _, _, _, _ => none
 | k + 1, x0, x3, x5, x6, x7 => spec_l3Table.l3 k x0 x3 x5 x6 x7 1
def spec_l3Table.l3 : Nat → Int → List (List Int) → Int → Int → Int → Int → Option ((List (List Int)))
 | 0, _, _, _, _, _, _ => none
 | k + 1, x0, x3, x5, x6, x7, x8 => if x8 < x5 then (spec_l3Table.l4 k x0 x3 x5 x6 x7 x8 0) else (if 0 ≤ x6 then (if x6 < (x3.length : Int) then (if (wrap64 (2 * (wrap64 (x5 + 1)))) = 0 then (none) else (if 0 ≤ x5 then (if x5 < ((rd_L1 x3 x6).length : Int) then (spec_l3Table.l2 k x0 (x3.set (x6 : Int).toNat ((rd_L1 x3 x6).set (x5 : Int).toNat (wrap64 (Int.tdiv x7 (wrap64 (2 * (wrap64 (x5 + 1)))))))) x5 (wrap64 (x6 + 1))) else (none)) else (none))) else (none)) else (none))
def spec_l3Table.l4 : Nat → Int → List (List Int) → Int → Int → Int → Int → Int → Option ((List (List Int)))
 | 0, _, _, _, _, _, _, _ => none
 | k + 1, x0, x3, x5, x6, x7, x8, x9 => if x9 ≤ x6 then (if 0 ≤ x9 then (if x9 < (x3.length : Int) then (if 0 ≤ (wrap64 (x8 - 1)) then (if (wrap64 (x8 - 1)) < ((rd_L1 x3 x9).length : Int) then (if 0 ≤ (wrap64 (x6 - x9)) then (if (wrap64 (x6 - x9)) < (x3.length : Int) then (if 0 ≤ (wrap64 ((wrap64 (x5 - x8)) - 1)) then (if (wrap64 ((wrap64 (x5 - x8)) - 1)) < ((rd_L1 x3 (wrap64 (x6 - x9))).length : Int) then (spec_l3Table.l4 k x0 x3 x5 x6 (wrap64 (x7 + (wrap64 ((wrap64 ((wrap64 ((wrap64 (6 * (wrap64 ((wrap64 (2 * x8)) - 1)))) * (wrap64 ((wrap64 (2 * (wrap64 (x5 - x8)))) - 1)))) * (rd (rd_L1 x3 x9) (wrap64 (x8 - 1))))) * (rd (rd_L1 x3 (wrap64 (x6 - x9))) (wrap64 ((wrap64 (x5 - x8)) - 1))))))) x8 (wrap64 (x9 + 1))) else (none)) else (none)) else (none)) else (none)) else (none)) else (none)) else (none)) else (none)) else (spec_l3Table.l3 k x0 x3 x5 x6 x7 (wrap64 (x8 + 1)))
end
def spec_l3Table.f (k : Nat) (a0 : Int) : Option ((List (List Int))) := spec_l3Table.l0 k a0 (([] : List (List Int))) 0
theorem spec_l3Table.mono_l : ∀ k, (∀ y0 y1 y2, LeO (spec_l3Table.l0 k y0 y1 y2) (spec_l3Table.l0 (k + 1) y0 y1 y2)) ∧ (∀ y0 y1 y2, LeO (spec_l3Table.l1 k y0 y1 y2) (spec_l3Table.l1 (k + 1) y0 y1 y2)) ∧ (∀ y0 y1 y2 y3, LeO (spec_l3Table.l2 k y0 y1 y2 y3) (spec_l3Table.l2 (k + 1) y0 y1 y2 y3)) ∧ (∀ y0 y1 y2 y3 y4 y5, LeO (spec_l3Table.j3 k y0 y1 y2 y3 y4 y5) (spec_l3Table.j3 (k + 1) y0 y1 y2 y3 y4 y5)) ∧ (∀ y0 y1 y2 y3 y4, LeO (spec_l3Table.j4 k y0 y1 y2 y3 y4) (spec_l3Table.j4 (k + 1) y0 y1 y2 y3 y4)) ∧ (∀ y0 y1 y2 y3 y4 y5, LeO (spec_l3Table.l3 k y0 y1 y2 y3 y4 y5) (spec_l3Table.l3 (k + 1) y0 y1 y2 y3 y4 y5)) ∧ (∀ y0 y1 y2 y3 y4 y5 y6, LeO (spec_l3Table.l4 k y0 y1 y2 y3 y4 y5 y6) (spec_l3Table.l4 (k + 1) y0 y1 y2 y3 y4 y5 y6))
 | 0 => ⟨fun _ _ _ r h => by simp [spec_l3Table.l0] at h, fun _ _ _ r h => by simp [spec_l3Table.l1] at h, fun _ _ _ _ r h => by simp [spec_l3Table.l2] at h, fun _ _ _ _ _ _ r h => by simp [spec_l3Table.j3] at h, fun _ _ _ _ _ r h => by simp [spec_l3Table.j4] at h, fun _ _ _ _ _ _ r h => by simp [spec_l3Table.l3] at h, fun _ _ _ _ _ _ _ r h => by simp [spec_l3Table.l4] at h⟩
 | k + 1 => by
  obtain ⟨ih0, ih1, ih2, ih3, ih4, ih5, ih6⟩ := spec_l3Table.mono_l k
  refine ⟨?_, ?_, ?_, ?_, ?_, ?_, ?_⟩
  ·intro y0 y1 y2
   unfold spec_l3Table.l0
   repeat' first
   | (with_reducible exact ih0 _ _ _)
   | (with_reducible exact ih1 _ _ _)
   | (with_reducible exact ih2 _ _ _ _)
   | (with_reducible exact ih3 _ _ _ _ _ _)
   | (with_reducible exact ih4 _ _ _ _ _)
   | (with_reducible exact ih5 _ _ _ _ _ _)
   | (with_reducible exact ih6 _ _ _ _ _ _ _)
   | (with_reducible exact LeO.refl _)
   | (with_reducible exact LeO.none _)
   | (with_reducible refine LeO.ite ?_ ?_)
   | (with_reducible refine LeO.bind ?_ (fun _ => ?_))
   | exact ih0 _ _ _
   | exact ih1 _ _ _
   | exact ih2 _ _ _ _
   | exact ih3 _ _ _ _ _ _
   | exact ih4 _ _ _ _ _
   | exact ih5 _ _ _ _ _ _
   | exact ih6 _ _ _ _ _ _ _
   | exact LeO.none _
   | refine LeO.ite ?_ ?_
   | refine LeO.bind ?_ (fun _ => ?_)
  ·intro y0 y1 y2
   unfold spec_l3Table.l1
   repeat' first
   | (with_reducible exact ih0 _ _ _)
   | (with_reducible exact ih1 _ _ _)
   | (with_reducible exact ih2 _ _ _ _)
   | (with_reducible exact ih3 _ _ _ _ _ _)
   | (with_reducible exact ih4 _ _ _ _ _)
   | (with_reducible exact ih5 _ _ _ _ _ _)
   | (with_reducible exact ih6 _ _ _ _ _ _ _)
   | (with_reducible exact LeO.refl _)
   | (with_reducible exact LeO.none _)
   | (with_reducible refine LeO.ite ?_ ?_)
   | (with_reducible refine LeO.bind ?_ (fun _ => ?_))
   | exact ih0 _ _ _
   | exact ih1 _ _ _
   | exact ih2 _ _ _ _
   | exact ih3 _ _ _ _ _ _
   | exact ih4 _ _ _ _ _
   | exact ih5 _ _ _ _ _ _
   | exact ih6 _ _ _ _ _ _ _
   | exact LeO.none _
   | refine LeO.ite ?_ ?_
   | refine LeO.bind ?_ (fun _ => ?_)
  ·intro y0 y1 y2 y3
   unfold spec_l3Table.l2
   repeat' first
   | (with_reducible exact ih0 _ _ _)
   | (with_reducible exact ih1 _ _ _)
   | (with_reducible exact ih2 _ _ _ _)
   | (with_reducible exact ih3 _ _ _ _ _ _)
   | (with_reducible exact ih4 _ _ _ _ _)
   | (with_reducible exact ih5 _ _ _ _ _ _)
   | (with_reducible exact ih6 _ _ _ _ _ _ _)
   | (with_reducible exact LeO.refl _)
   | (with_reducible exact LeO.none _)
   | (with_reducible refine LeO.ite ?_ ?_)
   | (with_reducible refine LeO.bind ?_ (fun _ => ?_))
   | exact ih0 _ _ _
   | exact ih1 _ _ _
   | exact ih2 _ _ _ _
   | exact ih3 _ _ _ _ _ _
   | exact ih4 _ _ _ _ _
   | exact ih5 _ _ _ _ _ _
   | exact ih6 _ _ _ _ _ _ _
   | exact LeO.none _
   | refine LeO.ite ?_ ?_
   | refine LeO.bind ?_ (fun _ => ?_)
  ·intro y0 y1 y2 y3 y4 y5
   unfold spec_l3Table.j3
   repeat' first
   | (with_reducible exact ih0 _ _ _)
   | (with_reducible exact ih1 _ _ _)
   | (with_reducible exact ih2 _ _ _ _)
   | (with_reducible exact ih3 _ _ _ _ _ _)
   | (with_reducible exact ih4 _ _ _ _ _)
   | (with_reducible exact ih5 _ _ _ _ _ _)
   | (with_reducible exact ih6 _ _ _ _ _ _ _)
   | (with_reducible exact LeO.refl _)
   | (with_reducible exact LeO.none _)
   | (with_reducible refine LeO.ite ?_ ?_)
   | (with_reducible refine LeO.bind ?_ (fun _ => ?_))
   | exact ih0 _ _ _
   | exact ih1 _ _ _
   | exact ih2 _ _ _ _
   | exact ih3 _ _ _ _ _ _
   | exact ih4 _ _ _ _ _
   | exact ih5 _ _ _ _ _ _
   | exact ih6 _ _ _ _ _ _ _
   | exact LeO.none _
   | refine LeO.ite ?_ ?_
   | refine LeO.bind ?_ (fun _ => ?_)
  ·intro y0 y1 y2 y3 y4
   unfold spec_l3Table.j4
   repeat' first
   | (with_reducible exact ih0 _ _ _)
   | (with_reducible exact ih1 _ _ _)
   | (with_reducible exact ih2 _ _ _ _)
   | (with_reducible exact ih3 _ _ _ _ _ _)
   | (with_reducible exact ih4 _ _ _ _ _)
   | (with_reducible exact ih5 _ _ _ _ _ _)
   | (with_reducible exact ih6 _ _ _ _ _ _ _)
   | (with_reducible exact LeO.refl _)
   | (with_reducible exact LeO.none _)
   | (with_reducible refine LeO.ite ?_ ?_)
   | (with_reducible refine LeO.bind ?_ (fun _ => ?_))
   | exact ih0 _ _ _
   | exact ih1 _ _ _
   | exact ih2 _ _ _ _
   | exact ih3 _ _ _ _ _ _
   | exact ih4 _ _ _ _ _
   | exact ih5 _ _ _ _ _ _
   | exact ih6 _ _ _ _ _ _ _
   | exact LeO.none _
   | refine LeO.ite ?_ ?_
   | refine LeO.bind ?_ (fun _ => ?_)
  ·intro y0 y1 y2 y3 y4 y5
   unfold spec_l3Table.l3
   repeat' first
   | (with_reducible exact ih0 _ _ _)
   | (with_reducible exact ih1 _ _ _)
   | (with_reducible exact ih2 _ _ _ _)
   | (with_reducible exact ih3 _ _ _ _ _ _)
   | (with_reducible exact ih4 _ _ _ _ _)
   | (with_reducible exact ih5 _ _ _ _ _ _)
   | (with_reducible exact ih6 _ _ _ _ _ _ _)
   | (with_reducible exact LeO.refl _)
   | (with_reducible exact LeO.none _)
   | (with_reducible refine LeO.ite ?_ ?_)
   | (with_reducible refine LeO.bind ?_ (fun _ => ?_))
   | exact ih0 _ _ _
   | exact ih1 _ _ _
   | exact ih2 _ _ _ _
   | exact ih3 _ _ _ _ _ _
   | exact ih4 _ _ _ _ _
   | exact ih5 _ _ _ _ _ _
   | exact ih6 _ _ _ _ _ _ _
   | exact LeO.none _
   | refine LeO.ite ?_ ?_
   | refine LeO.bind ?_ (fun _ => ?_)
  ·intro y0 y1 y2 y3 y4 y5 y6
   unfold spec_l3Table.l4
   repeat' first
   | (with_reducible exact ih0 _ _ _)
   | (with_reducible exact ih1 _ _ _)
   | (with_reducible exact ih2 _ _ _ _)
   | (with_reducible exact ih3 _ _ _ _ _ _)
   | (with_reducible exact ih4 _ _ _ _ _)
   | (with_reducible exact ih5 _ _ _ _ _ _)
   | (with_reducible exact ih6 _ _ _ _ _ _ _)
   | (with_reducible exact LeO.refl _)
   | (with_reducible exact LeO.none _)
   | (with_reducible refine LeO.ite ?_ ?_)
   | (with_reducible refine LeO.bind ?_ (fun _ => ?_))
   | exact ih0 _ _ _
   | exact ih1 _ _ _
   | exact ih2 _ _ _ _
   | exact ih3 _ _ _ _ _ _
   | exact ih4 _ _ _ _ _
   | exact ih5 _ _ _ _ _ _
   | exact ih6 _ _ _ _ _ _ _
   | exact LeO.none _
   | refine LeO.ite ?_ ?_
   | refine LeO.bind ?_ (fun _ => ?_)
theorem spec_l3Table.mono : ∀ a0 k, LeO (spec_l3Table.f k a0) (spec_l3Table.f (k + 1) a0) := by
 intro a0 k
 obtain ⟨ih0, ih1, ih2, ih3, ih4, ih5, ih6⟩ := spec_l3Table.mono_l k
 unfold spec_l3Table.f
 repeat' first
  | (with_reducible exact ih0 _ _ _)
  | (with_reducible exact ih1 _ _ _)
  | (with_reducible exact ih2 _ _ _ _)
  | (with_reducible exact ih3 _ _ _ _ _ _)
  | (with_reducible exact ih4 _ _ _ _ _)
  | (with_reducible exact ih5 _ _ _ _ _ _)
  | (with_reducible exact ih6 _ _ _ _ _ _ _)
  | (with_reducible exact LeO.refl _)
  | (with_reducible exact LeO.none _)
  | (with_reducible refine LeO.ite ?_ ?_)
  | (with_reducible refine LeO.bind ?_ (fun _ => ?_))
  | exact ih0 _ _ _
  | exact ih1 _ _ _
  | exact ih2 _ _ _ _
  | exact ih3 _ _ _ _ _ _
  | exact ih4 _ _ _ _ _
  | exact ih5 _ _ _ _ _ _
  | exact ih6 _ _ _ _ _ _ _
  | exact LeO.none _
  | refine LeO.ite ?_ ?_
  | refine LeO.bind ?_ (fun _ => ?_)
def spec_l3Table.T22 : Bool × List (List Nat × List Nat) := (true, [([], []), ([], []), ([1], [1]), ([2], [2]), ([3], [3]), ([], []), ([], []), ([5, 6], [5, 6]), ([7], [7]), ([8], [8]), ([4, 9], [4, 9]), ([], []), ([], []), ([11, 12], [11, 12]), ([13], [13]), ([], []), ([15], [15]), ([14, 16], [14, 16]), ([17], [17]), ([10, 18], [10, 18]), ([], []), ([], []), ([], []), ([21, 22], [21, 22]), ([20, 23], [20, 23]), ([24], [24]), ([], []), ([], []), ([26, 27], [26, 27]), ([28], [28]), ([25, 29], [25, 29]), ([30], [30]), ([19, 31], [19, 31]), ([0, 32], [0, 32]), ([33, 0, 1, 2, 3, 4, 5, 6, 7, 8, 9, 10, 11, 12, 13, 14, 15, 16, 17, 18, 19, 20, 21, 22, 23, 24, 25, 26, 27, 28, 29, 30, 31, 32, 33], [0, 33])])
def spec_l3Table.B22 : List Nat := [0, 0, 2, 6, 14, 0, 0, 96, 224, 480, 1022, 0, 0, 6144, 14336, 0, 32768, 129024, 260096, 524286, 0, 0, 0, 6291456, 15728640, 32505856, 0, 0, 201326592, 469762048, 1072693248, 2146435072, 4294967294, 8589934591, 17179869183]
theorem spec_l3Table.tab22 : rtab .any (opsOf Try.f27 22) = spec_l3Table.T22 := by kernel_rfl
theorem spec_l3Table.bits22 : waitsOk spec_l3Table.T22.2 spec_l3Table.B22 = true := by kernel_rfl
def spec_l3Table.T23 : Bool × List (List Nat × List Nat) := (true, [([], []), ([], []), ([0, 1], [0, 1]), ([2], [2]), ([], []), ([], []), ([], []), ([6], [6]), ([7], [7]), ([5, 8], [5, 8]), ([3, 4, 0, 1, 2, 3, 4, 5, 6, 7, 8, 9], [3, 4]), ([10, 9, 0, 1, 2, 3, 4, 5, 6, 7, 8, 9], [9, 10])])
def spec_l3Table.B23 : List Nat := [0, 0, 3, 7, 0, 0, 0, 64, 192, 480, 1023, 2047]
theorem spec_l3Table.tab23 : rtab .any (opsOf Try.f27 23) = spec_l3Table.T23 := by kernel_rfl
theorem spec_l3Table.bits23 : waitsOk spec_l3Table.T23.2 spec_l3Table.B23 = true := by kernel_rfl
set_option maxHeartbeats 8000000 in
set_option maxRecDepth 100000 in
theorem spec_l3Table.calls (k : Nat) (a0 : Int) (r : List (List Int)) (w : World) (h : spec_l3Table.f k a0 = some r) :
 Calls Try.prog 27 #[.int .i64 a0] w fun e w' => ∃ v0_ : Value, e = .returned (v0_) ∧ Kd.S (Kd.slice 3 (Kd.int .i64)) 33 w' w.heap.size (fun _ => True) v0_ r ∧ Below w.heap.size w w' := by
 have HB := Aside0.mk (Below.refl w.heap.size w)
 have H : (spec_l3Table.l0 k a0 (([] : List (List Int))) 0) = some r := h
 clear h
 obtain ⟨y101, hy101⟩ : ∃ y_ : List (List Int), y_ = (([] : List (List Int))) := ⟨_, rfl⟩
 replace H : (spec_l3Table.l0 k a0 y101 0) = some r := by first | (rw [hy101]; with_reducible exact H) | (have H2_ := (Option.bind_some _ _).symm.trans H; rw [hy101]; with_reducible exact H2_) | (have H2_ := (Option.bind_some _ _).symm.trans H; with_reducible exact H2_) | with_reducible exact H | (rw [hy101]; exact H) | exact H
 have Ny101 := Aside0.mk hy101
 clear hy101
 have H' := Aside0.mk H
 clear H
 go_enter Try.func27, Try.ntmps27
 go_wp2_with (first | ((with_reducible refine gate_dst (N := 10) rfl ?_); refine Kd.S_lit (Kd.slice 3 (Kd.int .i64)) _ 33 ?hg (N := 10) ?hd (xs := ([] : List (List Int))) (inner := []) (ok := fun _ => True) (okp := fun _ => True) ?hr ?hp (fun _ hk => hk) trivial (Below.refl _ _) (Nat.le_refl _) (by simp) ?_; (case hd => rfl); (case hg => rfl); (case hr => first | (go_simp; done) | (go_simp; rfl)); (case hp => exact (Reps.none _ _)); intro v102 w2 ho3 hb hg_ hnew_; clear hg_ hnew_; (first | rw [← Ny101.out] at ho3 | (simp only [Int.reduceToNat] at ho3; rw [← Ny101.out] at ho3)); have HO103 := Aside0.mk (Kd.S_lower ho3 (below_size (bP HB))); replace HB := bS HB hb; clear hb ho3))
 go_loopg [3, 4] k (fun kq v3 v4 w' => ∃ (x3_1 : List (List Int)) (x4_1 : Int), v4 = .int .i64 x4_1 ∧ Aside0 (spec_l3Table.l0 kq a0 x3_1 x4_1 = some r) ∧ Aside0 (kq ≤ k) ∧ Aside0 (Kd.S (Kd.slice 3 (Kd.int .i64)) 33 w' w.heap.size (fun _ => True) v3 x3_1) ∧ Aside0 (Below w.heap.size w w'))
 case atStart => exact ⟨(y101), (0), eS, H', ⟨Nat.le_refl _⟩, ⟨by (with_reducible repeat (first | apply Kd.S_alloc | apply Kd.S_drewN | apply Kd.S_drew)); exact HO103.out⟩, ⟨bP HB⟩⟩
 case round =>
  clear H'
  try clear c2
  try clear p2
  obtain ⟨x3_1, x4_1, rfl, HA, HK1, HO_3, HB⟩ := hrel
  cases gk with
  | zero => exact absurd HA.out (by simp [spec_l3Table.l0])
  | succ k1 =>
   have H := HA.out
   clear HA
   simp only [spec_l3Table.l0] at H
   by_cases c4 : x4_1 ≤ 5
   ·rw [if_pos c4] at H
    have c4b0 : decide (x4_1 ≤ 5) = true := decide_eq_true c4
    clear c4
    obtain ⟨ji5, hji5⟩ : ∃ j_ : Int, (wrap64 (a0 + 1)) = j_ := ⟨_, rfl⟩
    replace H : (if 0 ≤ (ji5) then (if (ji5 : Int).toNat ≤ 35184372088832 then (if x3_1.length < 5864062014805 then (spec_l3Table.l0 k1 a0 (x3_1 ++ [(List.replicate (ji5 : Int).toNat 0)]) (wrap64 (x4_1 + 1))) else (none)) else (none)) else (none)) = some r := by first | (rw [hji5] at H; exact H) | (simp only [hji5] at H ⊢; exact H)
    have hji5w : (IntKind.i64.wrap (a0 + 1)) = ji5 := (i64_w _).trans hji5
    by_cases c6 : 0 ≤ (ji5)
    ·rw [if_pos c6] at H
     have c6b0 := eq_true c6
     have c6b1 : decide (0 ≤ (ji5)) = true := decide_eq_true c6
     clear c6
     by_cases c7 : (ji5 : Int).toNat ≤ 35184372088832
     ·rw [if_pos c7] at H
      have c7b0 := eq_true c7
      have c7b1 : decide ((ji5 : Int).toNat ≤ 35184372088832) = true := decide_eq_true c7
      clear c7
      obtain ⟨y104, hy104⟩ : ∃ y_ : List Int, y_ = (List.replicate (ji5 : Int).toNat 0) := ⟨_, rfl⟩
      replace H : (if x3_1.length < 5864062014805 then (spec_l3Table.l0 k1 a0 (x3_1 ++ [y104]) (wrap64 (x4_1 + 1))) else (none)) = some r := by first | (rw [hy104]; with_reducible exact H) | (have H2_ := (Option.bind_some _ _).symm.trans H; rw [hy104]; with_reducible exact H2_) | (have H2_ := (Option.bind_some _ _).symm.trans H; with_reducible exact H2_) | with_reducible exact H | (rw [hy104]; exact H) | exact H
      have Ny104 := Aside0.mk hy104
      clear hy104
      by_cases c8 : x3_1.length < 5864062014805
      ·rw [if_pos c8] at H
       have LMc8 := Aside0.mk c8
       clear c8
       obtain ⟨y107, hy107⟩ : ∃ y_ : List (List Int), y_ = (x3_1 ++ [y104]) := ⟨_, rfl⟩
       replace H : (spec_l3Table.l0 k1 a0 y107 (wrap64 (x4_1 + 1))) = some r := by first | (rw [hy107]; with_reducible exact H) | (have H2_ := (Option.bind_some _ _).symm.trans H; rw [hy107]; with_reducible exact H2_) | (have H2_ := (Option.bind_some _ _).symm.trans H; with_reducible exact H2_) | with_reducible exact H | (rw [hy107]; exact H) | exact H
       have Ny107 := Aside0.mk hy107
       clear hy107
       have H' := Aside0.mk H
       clear H
       go_wp2_with (first | ((with_reducible refine gate_dst (N := 18) rfl ?_); refine Kd.R_make (Kd.int .i64) _ 3 rfl (N := 18) rfl 33 _ _ rfl ji5 rfl rfl Try.underlying33 (.int .i64 0) 8 info3 rfl (by decide) (by omega) 0 (ok := fun _ => True) (okp := fun _ => True) rfl (fun _ hk => hk) trivial (dT) (Nat.le_trans (Nat.mul_le_mul_right _ (dT : ji5.toNat ≤ 35184372088832)) (by omega)) (Below.refl _ _) (Nat.le_refl _) ?_; intro v105 w9 ho10 hb hg_ hnew_; clear hg_ hnew_; (first | rw [← Ny104.out] at ho10 | (simp only [Int.reduceToNat] at ho10; rw [← Ny104.out] at ho10)); replace HO_3 := Aside0.mk (Kd.S_elder' (by (with_reducible repeat (first | apply Kd.S_alloc | apply Kd.S_drewN | apply Kd.S_drew)); exact HO_3.out) (Kd.R_base ho10) hb); have HO106 := rL ho10 HB; replace HB := bS HB hb; clear hb ho10; obtain ⟨Ao12, co12, eo12⟩ := Kd.R_slice HO106.out; subst eo12) | ((with_reducible refine gate_builtin (b := .append) (xs := #[.tmp 15, .tmp 19]) rfl ?_); at_builtin; refine Kd.S_append (Kd.slice 3 (Kd.int .i64)) (w0 := w) w.heap.size rfl (.tmp 15) (.tmp 19) 34 33 (.slice none 0 0) 24 rfl Try.underlying34 info33 rfl (by decide) (by omega) u3 x3_1 y104 [.slice Ao12 y104.length co12] (fun _ => True) (fun k_ => some k_ = (.slice Ao12 y104.length co12 : Value).ownBlock) rfl rfl ?aP (fun k_ hk_ => ((Kd.R_mono (ok' := fun k_ => ((fun _ => True)) k_ ∧ some k_ ≠ (u3 : Value).ownBlock) (Kd.R_apart' (HO106.out) (Kd.S_typed HO_3.out) (by decide)) (fun k_ hk => ⟨trivial, hk.2⟩))).1 k_ hk_.symm) ?aF ?aO ?aB ?aS ?aL ?_; (case aP => exact Kd.M_row (Kd.R_mono (Kd.R_tight rfl (Kd.R_mono (ok' := fun k_ => ((fun _ => True)) k_ ∧ some k_ ≠ (u3 : Value).ownBlock) (Kd.R_apart' (HO106.out) (Kd.S_typed HO_3.out) (by decide)) (fun k_ hk => ⟨trivial, hk.2⟩))) (fun _ h_ => h_))); (case aB => exact (bP HB)); (case aF => exact (fun _ _ => trivial)); (case aO => exact (by (with_reducible repeat (first | apply Kd.S_alloc | apply Kd.S_drewN | apply Kd.S_drew)); exact Kd.S_mono HO_3.out (fun k_ hk => ⟨trivial, fun e_ => hk.2 e_⟩))); (case aS => exact (below_size (bP HB))); (case aL => have := LMc8.out; omega); intro v108 w11 ho hb hg hat; rw [← Ny107.out] at ho; replace HB := Aside0.mk (hb); have HO109 := Aside0.mk (ho); clear HO_3; clear HO106; clear ho hb hg hat))
       go_roundg k1
       case measure => have := HK1.out; omega
       case rel => exact ⟨(y107), (wrap64 (x4_1 + 1)), eS, H', ⟨by have := HK1.out; omega⟩, ⟨by (with_reducible repeat (first | apply Kd.S_alloc | apply Kd.S_drewN | apply Kd.S_drew)); exact HO109.out⟩, ⟨bP HB⟩⟩
      ·rw [if_neg c8] at H
       exact absurd H (by simp)
     ·rw [if_neg c7] at H
      exact absurd H (by simp)
    ·rw [if_neg c6] at H
     exact absurd H (by simp)
   ·rw [if_neg c4] at H
    have c4b0 : decide (x4_1 ≤ 5) = false := decide_eq_false c4
    clear c4
    by_cases c13 : 0 < (x3_1.length : Int)
    ·rw [if_pos c13] at H
     have c13b0 : decide (0 < (x3_1.length : Int)) = true := decide_eq_true c13
     have c13b1 : decide (0 < x3_1.length) = true := decide_eq_true (by omega)
     clear c13
     by_cases c14 : 0 < ((rd_L1 x3_1 0).length : Int)
     ·rw [if_pos c14] at H
      have c14b0 : decide (0 < ((rd_L1 x3_1 0).length : Int)) = true := decide_eq_true c14
      have c14b1 : decide (0 < (rd_L1 x3_1 0).length) = true := decide_eq_true (by omega)
      clear c14
      obtain ⟨y111, hy111⟩ : ∃ y_ : List Int, y_ = ((rd_L1 x3_1 0).set (0 : Int).toNat 1) := ⟨_, rfl⟩
      replace H : (spec_l3Table.l1 k1 a0 (x3_1.set (0 : Int).toNat y111) 1) = some r := by first | (rw [hy111]; with_reducible exact H) | (have H2_ := (Option.bind_some _ _).symm.trans H; rw [hy111]; with_reducible exact H2_) | (have H2_ := (Option.bind_some _ _).symm.trans H; with_reducible exact H2_) | with_reducible exact H | (rw [hy111]; exact H) | exact H
      have Ny111 := Aside0.mk hy111
      clear hy111
      obtain ⟨y113, hy113⟩ : ∃ y_ : List (List Int), y_ = (x3_1.set (0 : Int).toNat y111) := ⟨_, rfl⟩
      replace H : (spec_l3Table.l1 k1 a0 y113 1) = some r := by first | (rw [hy113]; with_reducible exact H) | (have H2_ := (Option.bind_some _ _).symm.trans H; rw [hy113]; with_reducible exact H2_) | (have H2_ := (Option.bind_some _ _).symm.trans H; with_reducible exact H2_) | with_reducible exact H | (rw [hy113]; exact H) | exact H
      have Ny113 := Aside0.mk hy113
      clear hy113
      have H' := Aside0.mk H
      clear H
      obtain ⟨Ao16, co16, eo16⟩ := Kd.S_slice HO_3.out
      subst eo16
      have p110 : 0 ≤ (0 : Int) := (by omega)
      have q110 : 0 < (x3_1.length : Int) := dT
      obtain ⟨ad110, A110_0, c110_0, e110, hx110_0, hl110_0, hi110_0⟩ := at_L1 (Kd.S_reads' HO_3.out).2.2 0 p110 q110
      cases e110
      obtain ⟨ce110, hce110, hMe110, hcc110⟩ := Kd.S_get HO_3.out [] 0 p110 (by first | exact q110 | exact dT | (have e_ := (Kd.S_reads' HO_3.out).1; omega))
      obtain ⟨ve110_0, rfl, ge110_0⟩ := hMe110
      have hv110_0 := hcc110 0 _ rfl
      rw [Nat.add_zero, show ((Kd.slice 3 (Kd.int .i64))).sz = 1 from rfl, Nat.mul_one] at hv110_0
      replace hv110_0 := Option.some.inj (hv110_0.symm.trans hx110_0)
      rw [hv110_0] at ge110_0
      have HL110_0 := Aside0.mk (show Kd.R (Kd.int .i64) 3 _ _ _ _ (rd_L1 x3_1 0) from ge110_0)
      clear hv110_0 ge110_0
      have HX110_0 := Aside0.mk hx110_0
      clear hcc110 hce110
      have qi110 : (0 < x3_1.length) = True := eq_true (by omega)
      (try rw [show ((0 : Int)).toNat = 0 from rfl] at hx110_0)
      (try rw [Addr.add_zero'] at hx110_0)
      have HR110_0 := Aside0.mk hi110_0
      have HC110_0 := Aside0.mk hl110_0
      clear hi110_0 hl110_0
      replace p110 := eq_true p110
      replace q110 := eq_true q110
      have p15 : 0 ≤ (0 : Int) := (by omega)
      have q15 : (0 : Int) < (((rd_L1 x3_1 0).length : Int) : Int) := dT
      have qi15 : (0 < (rd_L1 x3_1 0).length) = True := eq_true (by omega)
      obtain ⟨go15, co15, eo15, gb15, gl15, cl15, HG15⟩ := Kd.R_form HL110_0.out (by omega)
      (first | cases eo15 | (injection eo15 with ea_ en_ ec_; (first | subst ea_ | (injection ea_ with ea_; subst ea_)); subst ec_; clear en_))
      have GB15 := Aside0.mk gb15
      have GG15 := Aside0.mk HG15
      clear gb15 gl15 HG15
      obtain ⟨hx15_0, hf15_0⟩ := Kd.R_celln 0 HL110_0.out (0 : Int) p15 q15
      (try rw [show ((0 : Int)).toNat = 0 from rfl] at hx15_0)
      (try simp only [Nat.reduceMul, Nat.zero_mul, Nat.zero_add, Nat.reduceAdd] at hx15_0)
      (try rw [show ((0 : Int)).toNat = 0 from rfl] at hf15_0)
      (try simp only [Nat.reduceMul, Nat.zero_mul, Nat.zero_add, Nat.reduceAdd] at hf15_0)
      replace p15 := eq_true p15
      replace q15 := eq_true q15
      have hq17 : (0 : Int) < (x3_1.length : Int) := (by have h_ : (0 : Int) < ((x3_1.length : Int) : Int) := dT; first | exact h_ | (have e_ := (Kd.S_reads' HO_3.out).1; omega) | simpa only [List.length_set, List.length_set] using h_)
      obtain ⟨oki17, ce17, hcl17, hM17, hcc17, hok17, hbk17⟩ := Kd.S_borrow HO_3.out [] (0 : Int) (by omega) hq17
      obtain ⟨ve17_0, rfl, ge17_0⟩ := hM17
      have hv17 := hcc17 0 _ rfl
      rw [Nat.add_zero, show ((Kd.slice 3 (Kd.int .i64))).sz = 1 from rfl, Nat.mul_one] at hv17
      replace hv17 := Option.some.inj (hv17.symm.trans HX110_0.out)
      subst hv17
      clear hcc17 hcl17
      replace ge17_0 := (show Kd.R (Kd.int .i64) 3 _ _ _ _ (rd_L1 x3_1 0) from ge17_0)
      have HP17 := Kd.R_putg ge17_0 (0 : Int) 1
      go_wp2_with (first | ((with_reducible refine gate_store (t := 3) (p := 24) rfl ?_); refine store_event (t := 3) (p := 24) (v := ?vo_w18) (w1 := (wr.setCell ⟨go15, 0, none⟩ (.int .i64 1))) ?hg ?ho ?hn ?hr ?_; (case ho => rfl); (case hg => rfl); (case hn => rfl); (case hr => first | (go_simp; done) | (go_simp; rfl)); intro w18 hw; have hg : wr.grownBy w18 (some go15) := (by rw [hw]; exact HP17.2); have hz_ : Kd.R (Kd.int .i64) 3 w18 w.heap.size oki17 (.slice (some ⟨go15, 0, none⟩) (rd_L1 x3_1 0).length c110_0) y111 := (by rw [hw, Ny111.out]; exact HP17.1); have hp_ : Kd.S (Kd.slice 3 (Kd.int .i64)) 33 w18 w.heap.size (fun _ => True) (.slice (some ad110) x3_1.length co16) y113 := (by rw [Ny113.out]; exact hbk17 hg (fun k_ e_ => by injection e_ with e_; subst e_; exact ge17_0.1 _ rfl) (Kd.M_row hz_)); have hm_ := Kd.R_mono hz_ hok17; clear HP17 hbk17; replace HO_3 := Aside0.mk (hp_); replace HB := Aside0.mk ((by rw [hw]; exact below_set (HB.out) GB15.out : Below w.heap.size w w18)); have HL126 := Aside0.mk (hm_); have HC112 := Aside0.mk ((Kd.R_reads' hm_).2.1); clear HL110_0; clear hg hw hp_ hz_ hm_ hok17))
      go_loopg [5] k1 (fun kq v5 w' => ∃ (x3_2 : List (List Int)) (x5_2 : Int), v5 = .int .i64 x5_2 ∧ Aside0 (spec_l3Table.l1 kq a0 x3_2 x5_2 = some r) ∧ Aside0 (kq ≤ k1) ∧ Aside0 (Kd.S (Kd.slice 3 (Kd.int .i64)) 33 w' w.heap.size (fun _ => True) (.slice (some ad110) x3_1.length co16) x3_2) ∧ Aside0 (Below w.heap.size w w'))
      case atStart => exact ⟨(y113), (1), eS, H', ⟨Nat.le_refl _⟩, ⟨by (with_reducible repeat (first | apply Kd.S_alloc | apply Kd.S_drewN | apply Kd.S_drew)); exact HO_3.out⟩, ⟨bP HB⟩⟩
      case round =>
       clear H'
       try clear c1
       try clear p1
       try clear q1
       try clear hx1
       try clear qi1
       try clear hf1
       try clear c2
       try clear p2
       try clear c4
       try clear c4b0
       try clear c6
       try clear c6b0
       try clear c6b1
       try clear p6
       try clear c7
       try clear c7b0
       try clear c7b1
       try clear c8
       try clear c11
       try clear p11
       try clear q11
       try clear hx11
       try clear qi11
       try clear c13
       try clear c13b0
       try clear c13b1
       try clear c14
       try clear c14b0
       try clear c14b1
       try clear p15
       try clear q15
       try clear hx15
       try clear qi15
       try clear hf15
       try clear c17
       try clear q17
       try clear hx110_0
       try clear hx15_0
       try clear p110
       try clear p15
       try clear p2
       try clear q110
       try clear q15
       obtain ⟨x3_2, x5_2, rfl, HA, HK2, HO_3, HB⟩ := hrel
       have hl3_2 := (Kd.S_reads' HO_3.out).1
       rw [hl3_2] at HO_3
       (try simp only [hl3_2])
       cases gk with
       | zero => exact absurd HA.out (by simp [spec_l3Table.l1])
       | succ k2 =>
        have H := HA.out
        clear HA
        simp only [spec_l3Table.l1] at H
        by_cases c19 : x5_2 ≤ a0
        ·rw [if_pos c19] at H
         have c19b0 : decide (x5_2 ≤ a0) = true := decide_eq_true c19
         clear c19
         have H' := Aside0.mk H
         clear H
         go_wp2
         go_loopg [6] k2 (fun kq v6 w' => ∃ (x3_3 : List (List Int)) (x6_3 : Int), v6 = .int .i64 x6_3 ∧ Aside0 (spec_l3Table.l2 kq a0 x3_3 x5_2 x6_3 = some r) ∧ Aside0 (kq ≤ k2) ∧ Aside0 (Kd.S (Kd.slice 3 (Kd.int .i64)) 33 w' w.heap.size (fun _ => True) (.slice (some ad110) x3_2.length co16) x3_3) ∧ Aside0 (Below w.heap.size w w'))
         case atStart => exact ⟨(x3_2), (0), eS, H', ⟨Nat.le_refl _⟩, ⟨by (try simp only [hl3_2]); (with_reducible repeat (first | apply Kd.S_alloc | apply Kd.S_drewN | apply Kd.S_drew)); exact HO_3.out⟩, ⟨bP HB⟩⟩
         case round =>
          clear H'
          try clear c1
          try clear p1
          try clear q1
          try clear hx1
          try clear qi1
          try clear hf1
          try clear c2
          try clear p2
          try clear c4
          try clear c4b0
          try clear c6
          try clear c6b0
          try clear c6b1
          try clear p6
          try clear c7
          try clear c7b0
          try clear c7b1
          try clear c8
          try clear c11
          try clear p11
          try clear q11
          try clear hx11
          try clear qi11
          try clear c13
          try clear c13b0
          try clear c13b1
          try clear c14
          try clear c14b0
          try clear c14b1
          try clear p15
          try clear q15
          try clear hx15
          try clear qi15
          try clear hf15
          try clear c17
          try clear q17
          try clear c19
          try clear c19b0
          try clear hx110_0
          try clear hx15_0
          try clear p1
          try clear p11
          try clear p110
          try clear p15
          try clear p2
          try clear p6
          try clear q1
          try clear q11
          try clear q110
          try clear q15
          try clear q17
          obtain ⟨x3_3, x6_3, rfl, HA, HK3, HO_3, HB⟩ := hrel
          have hl3_3 := (Kd.S_reads' HO_3.out).1
          rw [hl3_3] at HO_3
          (try simp only [hl3_3])
          cases gk with
          | zero => exact absurd HA.out (by simp [spec_l3Table.l2])
          | succ k3 =>
           have H := HA.out
           clear HA
           simp only [spec_l3Table.l2] at H
           by_cases c20 : x6_3 ≤ 5
           ·rw [if_pos c20] at H
            have c20b0 : decide (x6_3 ≤ 5) = true := decide_eq_true c20
            clear c20
            by_cases c21 : 0 ≤ x6_3
            ·rw [if_pos c21] at H
             have c21b0 : decide (0 ≤ x6_3) = true := decide_eq_true c21
             clear c21
             by_cases c22 : x6_3 < (x3_3.length : Int)
             ·rw [if_pos c22] at H
              have c22b0 : decide (x6_3 < (x3_3.length : Int)) = true := decide_eq_true c22
              clear c22
              obtain ⟨ji23, hji23⟩ : ∃ j_ : Int, (wrap64 (x5_2 - 1)) = j_ := ⟨_, rfl⟩
              replace H : (if 0 ≤ (ji23) then (if (ji23) < ((rd_L1 x3_3 x6_3).length : Int) then (if x6_3 > 0 then (spec_l3Table.j3 k3 a0 x3_3 x5_2 x6_3 (wrap64 ((wrap64 (4 * (wrap64 ((wrap64 (4 * x5_2)) - 2)))) * (rd (rd_L1 x3_3 x6_3) (ji23)))) (decide (x5_2 > 1))) else (spec_l3Table.j3 k3 a0 x3_3 x5_2 x6_3 (wrap64 ((wrap64 (4 * (wrap64 ((wrap64 (4 * x5_2)) - 2)))) * (rd (rd_L1 x3_3 x6_3) (ji23)))) false)) else (none)) else (none)) = some r := by first | (rw [hji23] at H; exact H) | (simp only [hji23] at H ⊢; exact H)
              have hji23w : (IntKind.i64.wrap (x5_2 - 1)) = ji23 := (i64_w _).trans hji23
              by_cases c24 : 0 ≤ (ji23)
              ·rw [if_pos c24] at H
               have c24b0 : decide (0 ≤ (ji23)) = true := decide_eq_true c24
               clear c24
               by_cases c25 : (ji23) < ((rd_L1 x3_3 x6_3).length : Int)
               ·rw [if_pos c25] at H
                have c25b0 : decide ((ji23) < ((rd_L1 x3_3 x6_3).length : Int)) = true := decide_eq_true c25
                clear c25
                have HC26 := Aside0.mk H
                clear H
                have p114 : 0 ≤ (x6_3 : Int) := dT
                have q114 : x6_3 < (x3_3.length : Int) := dT
                obtain ⟨ad114, A114_0, c114_0, e114, hx114_0, hl114_0, hi114_0⟩ := at_L1 (Kd.S_reads' HO_3.out).2.2 x6_3 p114 q114
                obtain rfl : ad110 = ad114 := (by injection e114)
                obtain ⟨ce114, hce114, hMe114, hcc114⟩ := Kd.S_get HO_3.out [] x6_3 p114 (by first | exact q114 | exact dT | (have e_ := (Kd.S_reads' HO_3.out).1; omega))
                obtain ⟨ve114_0, rfl, ge114_0⟩ := hMe114
                have hv114_0 := hcc114 0 _ rfl
                rw [Nat.add_zero, show ((Kd.slice 3 (Kd.int .i64))).sz = 1 from rfl, Nat.mul_one] at hv114_0
                replace hv114_0 := Option.some.inj (hv114_0.symm.trans hx114_0)
                rw [hv114_0] at ge114_0
                have HL114_0 := Aside0.mk (show Kd.R (Kd.int .i64) 3 _ _ _ _ (rd_L1 x3_3 x6_3) from ge114_0)
                clear hv114_0 ge114_0
                have HX114_0 := Aside0.mk hx114_0
                clear hcc114 hce114
                have HR114_0 := Aside0.mk hi114_0
                have HC114_0 := Aside0.mk hl114_0
                clear hi114_0 hl114_0
                replace p114 := eq_true p114
                replace q114 := eq_true q114
                have p115 : 0 ≤ ((ji23) : Int) := dT
                have q115 : (ji23) < ((rd_L1 x3_3 x6_3).length : Int) := dT
                obtain ⟨ad115, e115, hx115_0⟩ := Kd.at_int (by repeat (first | (with_reducible exact HR114_0.out) | (with_reducible refine Kd.C_alloc ?_ _) | (with_reducible refine Kd.C_drewN ?_ _) | (with_reducible refine Kd.C_drew ?_) | exact HR114_0.out)) (ji23) p115 q115
                cases e115
                replace p115 := eq_true p115
                replace q115 := eq_true q115
                go_upto_region 14 with (fail)
                go_cut [52] (fun v52 wc => ∃ (kq : Nat) (x52_25 : Bool), v52 = .bool x52_25 ∧ Aside0 (spec_l3Table.j3 kq a0 x3_3 x5_2 x6_3 (wrap64 ((wrap64 (4 * (wrap64 ((wrap64 (4 * x5_2)) - 2)))) * (rd (rd_L1 x3_3 x6_3) (ji23)))) x52_25 = some r) ∧ Aside0 (kq ≤ k3) ∧ Aside0 (Kd.S (Kd.slice 3 (Kd.int .i64)) 33 wc w.heap.size (fun _ => True) (.slice (some ad110) x3_3.length co16) x3_3) ∧ Aside0 (Kd.C (Kd.int .i64) wc (some ad115) (rd_L1 x3_3 x6_3).length (rd_L1 x3_3 x6_3)) ∧ Aside0 (Below w.heap.size w wc))
                case first =>
                 have H := HC26.out
                 clear HC26
                 by_cases c27 : x6_3 > 0
                 ·rw [if_pos c27] at H
                  have c27b0 : decide (0 < x6_3) = true := decide_eq_true c27
                  clear c27
                  (first | rw [c27b0] | (simp only [i64_w, i32_w]; rw [c27b0]) | skip)
                  have H' := Aside0.mk H
                  clear H
                  go_wp2
                  go_meet
                  case rel => exact ⟨_, (decide (x5_2 > 1)), eS, H', ⟨by have := HK1.out; have := HK2.out; have := HK3.out; first | omega | exact Nat.le_refl _⟩, ⟨by (try simp only [hl3_2]); (try simp only [hl3_3]); (with_reducible repeat (first | apply Kd.S_alloc | apply Kd.S_drewN | apply Kd.S_drew)); exact HO_3.out⟩, ⟨by repeat (first | (with_reducible exact HR114_0.out) | (with_reducible refine Kd.C_alloc ?_ _) | (with_reducible refine Kd.C_drewN ?_ _) | (with_reducible refine Kd.C_drew ?_) | exact HR114_0.out)⟩, ⟨bP HB⟩⟩
                 ·rw [if_neg c27] at H
                  have c27b0 : decide (0 < x6_3) = false := decide_eq_false c27
                  clear c27
                  (first | rw [c27b0] | (simp only [i64_w, i32_w]; rw [c27b0]) | skip)
                  have H' := Aside0.mk H
                  clear H
                  go_wp2
                  go_meet
                  case rel => exact ⟨_, (false), eS, H', ⟨by have := HK1.out; have := HK2.out; have := HK3.out; first | omega | exact Nat.le_refl _⟩, ⟨by (try simp only [hl3_2]); (try simp only [hl3_3]); (with_reducible repeat (first | apply Kd.S_alloc | apply Kd.S_drewN | apply Kd.S_drew)); exact HO_3.out⟩, ⟨by repeat (first | (with_reducible exact HR114_0.out) | (with_reducible refine Kd.C_alloc ?_ _) | (with_reducible refine Kd.C_drewN ?_ _) | (with_reducible refine Kd.C_drew ?_) | exact HR114_0.out)⟩, ⟨bP HB⟩⟩
                case rest =>
                 clear HC26
                 try clear c1
                 try clear p1
                 try clear q1
                 try clear hx1
                 try clear qi1
                 try clear hf1
                 try clear c2
                 try clear p2
                 try clear c4
                 try clear c4b0
                 try clear c6
                 try clear c6b0
                 try clear c6b1
                 try clear p6
                 try clear c7
                 try clear c7b0
                 try clear c7b1
                 try clear c8
                 try clear c11
                 try clear p11
                 try clear q11
                 try clear hx11
                 try clear qi11
                 try clear c13
                 try clear c13b0
                 try clear c13b1
                 try clear c14
                 try clear c14b0
                 try clear c14b1
                 try clear p15
                 try clear q15
                 try clear hx15
                 try clear qi15
                 try clear hf15
                 try clear c17
                 try clear q17
                 try clear c19
                 try clear c19b0
                 try clear c20
                 try clear c20b0
                 try clear c21
                 try clear c21b0
                 try clear c22
                 try clear c22b0
                 try clear c24
                 try clear c24b0
                 try clear c25
                 try clear c25b0
                 try clear c27
                 try clear c27b0
                 try clear hx110_0
                 try clear hx114_0
                 try clear hx115_0
                 try clear hx15_0
                 try clear p1
                 try clear p11
                 try clear p110
                 try clear p114
                 try clear p115
                 try clear p15
                 try clear p2
                 try clear p6
                 try clear q1
                 try clear q11
                 try clear q110
                 try clear q114
                 try clear q115
                 try clear q15
                 try clear q17
                 obtain ⟨kq, x52_25, rfl, HA, HJ25, HO_3, HR114_0, HB⟩ := hcut
                 cases kq with
                 | zero => exact absurd HA.out (by simp [spec_l3Table.j3])
                 | succ kj25 =>
                  have H := HA.out
                  clear HA
                  simp only [spec_l3Table.j3] at H
                  have HC28 := Aside0.mk H
                  clear H
                  go_upto_if 52 with (fail)
                  go_cut [7] (fun v7 wc => ∃ (kq : Nat) (x7_27 : Int), v7 = .int .i64 x7_27 ∧ Aside0 (spec_l3Table.j4 kq a0 x3_3 x5_2 x6_3 x7_27 = some r) ∧ Aside0 (kq ≤ kj25) ∧ Aside0 (Kd.S (Kd.slice 3 (Kd.int .i64)) 33 wc w.heap.size (fun _ => True) (.slice (some ad110) x3_3.length co16) x3_3) ∧ Aside0 (Kd.C (Kd.int .i64) wc (some ad115) (rd_L1 x3_3 x6_3).length (rd_L1 x3_3 x6_3)) ∧ Aside0 (Below w.heap.size w wc))
                  case first =>
                   have H := HC28.out
                   clear HC28
                   by_cases c29 : x52_25 = true
                   ·subst c29
                    have H1 : (if 0 ≤ (wrap64 (x6_3 - 1)) then (if (wrap64 (x6_3 - 1)) < (x3_3.length : Int) then (if 0 ≤ (wrap64 (x5_2 - 2)) then (if (wrap64 (x5_2 - 2)) < ((rd_L1 x3_3 (wrap64 (x6_3 - 1))).length : Int) then (spec_l3Table.j4 kj25 a0 x3_3 x5_2 x6_3 (wrap64 ((wrap64 ((wrap64 (4 * (wrap64 ((wrap64 (4 * x5_2)) - 2)))) * (rd (rd_L1 x3_3 x6_3) (ji23)))) + (wrap64 ((wrap64 ((wrap64 ((wrap64 ((wrap64 (2 * x5_2)) - 3)) * (wrap64 ((wrap64 (2 * x5_2)) - 2)))) * (wrap64 ((wrap64 (2 * x5_2)) - 1)))) * (rd (rd_L1 x3_3 (wrap64 (x6_3 - 1))) (wrap64 (x5_2 - 2)))))))) else (none)) else (none)) else (none)) else (none)) = some r := by rw [if_pos rfl] at H; exact H
                    clear H
                    have H := H1
                    clear H1
                    obtain ⟨ji30, hji30⟩ : ∃ j_ : Int, (wrap64 (x6_3 - 1)) = j_ := ⟨_, rfl⟩
                    replace H : (if 0 ≤ (ji30) then (if (ji30) < (x3_3.length : Int) then (if 0 ≤ (wrap64 (x5_2 - 2)) then (if (wrap64 (x5_2 - 2)) < ((rd_L1 x3_3 (ji30)).length : Int) then (spec_l3Table.j4 kj25 a0 x3_3 x5_2 x6_3 (wrap64 ((wrap64 ((wrap64 (4 * (wrap64 ((wrap64 (4 * x5_2)) - 2)))) * (rd (rd_L1 x3_3 x6_3) (ji23)))) + (wrap64 ((wrap64 ((wrap64 ((wrap64 ((wrap64 (2 * x5_2)) - 3)) * (wrap64 ((wrap64 (2 * x5_2)) - 2)))) * (wrap64 ((wrap64 (2 * x5_2)) - 1)))) * (rd (rd_L1 x3_3 (ji30)) (wrap64 (x5_2 - 2)))))))) else (none)) else (none)) else (none)) else (none)) = some r := by first | (rw [hji30] at H; exact H) | (simp only [hji30] at H ⊢; exact H)
                    have hji30w : (IntKind.i64.wrap (x6_3 - 1)) = ji30 := (i64_w _).trans hji30
                    by_cases c31 : 0 ≤ (ji30)
                    ·rw [if_pos c31] at H
                     have c31b0 : decide (0 ≤ (ji30)) = true := decide_eq_true c31
                     clear c31
                     (first | rw [c31b0] | (simp only [i64_w, i32_w]; rw [c31b0]) | skip)
                     by_cases c32 : (ji30) < (x3_3.length : Int)
                     ·rw [if_pos c32] at H
                      have c32b0 : decide ((ji30) < (x3_3.length : Int)) = true := decide_eq_true c32
                      clear c32
                      obtain ⟨ji33, hji33⟩ : ∃ j_ : Int, (wrap64 (x5_2 - 2)) = j_ := ⟨_, rfl⟩
                      replace H : (if 0 ≤ (ji33) then (if (ji33) < ((rd_L1 x3_3 (ji30)).length : Int) then (spec_l3Table.j4 kj25 a0 x3_3 x5_2 x6_3 (wrap64 ((wrap64 ((wrap64 (4 * (wrap64 ((wrap64 (4 * x5_2)) - 2)))) * (rd (rd_L1 x3_3 x6_3) (ji23)))) + (wrap64 ((wrap64 ((wrap64 ((wrap64 ((wrap64 (2 * x5_2)) - 3)) * (wrap64 ((wrap64 (2 * x5_2)) - 2)))) * (wrap64 ((wrap64 (2 * x5_2)) - 1)))) * (rd (rd_L1 x3_3 (ji30)) (ji33))))))) else (none)) else (none)) = some r := by first | (rw [hji33] at H; exact H) | (simp only [hji33] at H ⊢; exact H)
                      have hji33w : (IntKind.i64.wrap (x5_2 - 2)) = ji33 := (i64_w _).trans hji33
                      by_cases c34 : 0 ≤ (ji33)
                      ·rw [if_pos c34] at H
                       have c34b0 : decide (0 ≤ (ji33)) = true := decide_eq_true c34
                       clear c34
                       by_cases c35 : (ji33) < ((rd_L1 x3_3 (ji30)).length : Int)
                       ·rw [if_pos c35] at H
                        have c35b0 : decide ((ji33) < ((rd_L1 x3_3 (ji30)).length : Int)) = true := decide_eq_true c35
                        clear c35
                        have H' := Aside0.mk H
                        clear H
                        have p116 : 0 ≤ ((ji30) : Int) := dT
                        have q116 : (ji30) < (x3_3.length : Int) := dT
                        obtain ⟨ad116, A116_0, c116_0, e116, hx116_0, hl116_0, hi116_0⟩ := at_L1 (Kd.S_reads' HO_3.out).2.2 (ji30) p116 q116
                        obtain rfl : ad110 = ad116 := (by injection e116)
                        obtain ⟨ce116, hce116, hMe116, hcc116⟩ := Kd.S_get HO_3.out [] (ji30) p116 (by first | exact q116 | exact dT | (have e_ := (Kd.S_reads' HO_3.out).1; omega))
                        obtain ⟨ve116_0, rfl, ge116_0⟩ := hMe116
                        have hv116_0 := hcc116 0 _ rfl
                        rw [Nat.add_zero, show ((Kd.slice 3 (Kd.int .i64))).sz = 1 from rfl, Nat.mul_one] at hv116_0
                        replace hv116_0 := Option.some.inj (hv116_0.symm.trans hx116_0)
                        rw [hv116_0] at ge116_0
                        have HL116_0 := Aside0.mk (show Kd.R (Kd.int .i64) 3 _ _ _ _ (rd_L1 x3_3 (ji30)) from ge116_0)
                        clear hv116_0 ge116_0
                        have HX116_0 := Aside0.mk hx116_0
                        clear hcc116 hce116
                        have HR116_0 := Aside0.mk hi116_0
                        have HC116_0 := Aside0.mk hl116_0
                        clear hi116_0 hl116_0
                        replace p116 := eq_true p116
                        replace q116 := eq_true q116
                        have p117 : 0 ≤ ((ji33) : Int) := dT
                        have q117 : (ji33) < ((rd_L1 x3_3 (ji30)).length : Int) := dT
                        obtain ⟨ad117, e117, hx117_0⟩ := Kd.at_int (by repeat (first | (with_reducible exact HR116_0.out) | (with_reducible refine Kd.C_alloc ?_ _) | (with_reducible refine Kd.C_drewN ?_ _) | (with_reducible refine Kd.C_drew ?_) | exact HR116_0.out)) (ji33) p117 q117
                        cases e117
                        replace p117 := eq_true p117
                        replace q117 := eq_true q117
                        go_wp2
                        go_meet
                        case rel => exact ⟨_, (wrap64 ((wrap64 ((wrap64 (4 * (wrap64 ((wrap64 (4 * x5_2)) - 2)))) * (rd (rd_L1 x3_3 x6_3) (ji23)))) + (wrap64 ((wrap64 ((wrap64 ((wrap64 ((wrap64 (2 * x5_2)) - 3)) * (wrap64 ((wrap64 (2 * x5_2)) - 2)))) * (wrap64 ((wrap64 (2 * x5_2)) - 1)))) * (rd (rd_L1 x3_3 (ji30)) (ji33)))))), (by first | rfl | (simp; done) | (simp only [← hji23, ← hji30, ← hji33] <;> (first | rfl | simp)) | (simp [*]; done)), H', ⟨by have := HK1.out; have := HK2.out; have := HK3.out; have := HJ25.out; first | omega | exact Nat.le_refl _⟩, ⟨by (try simp only [hl3_2]); (try simp only [hl3_3]); (with_reducible repeat (first | apply Kd.S_alloc | apply Kd.S_drewN | apply Kd.S_drew)); exact HO_3.out⟩, ⟨by repeat (first | (with_reducible exact HR114_0.out) | (with_reducible refine Kd.C_alloc ?_ _) | (with_reducible refine Kd.C_drewN ?_ _) | (with_reducible refine Kd.C_drew ?_) | exact HR114_0.out)⟩, ⟨bP HB⟩⟩
                       ·rw [if_neg c35] at H
                        exact absurd H (by simp)
                      ·rw [if_neg c34] at H
                       exact absurd H (by simp)
                     ·rw [if_neg c32] at H
                      exact absurd H (by simp)
                    ·rw [if_neg c31] at H
                     exact absurd H (by simp)
                   ·replace c29 := Bool.eq_false_iff.mpr c29
                    subst c29
                    have H1 : (spec_l3Table.j4 kj25 a0 x3_3 x5_2 x6_3 (wrap64 ((wrap64 (4 * (wrap64 ((wrap64 (4 * x5_2)) - 2)))) * (rd (rd_L1 x3_3 x6_3) (ji23))))) = some r := by rw [if_neg (show ¬ (false = true) by decide)] at H; exact H
                    clear H
                    have H := H1
                    clear H1
                    have H' := Aside0.mk H
                    clear H
                    go_wp2
                    go_meet
                    case rel => exact ⟨_, ((wrap64 ((wrap64 (4 * (wrap64 ((wrap64 (4 * x5_2)) - 2)))) * (rd (rd_L1 x3_3 x6_3) (ji23))))), (by first | rfl | (simp; done) | (simp only [← hji23] <;> (first | rfl | simp)) | (simp [*]; done)), H', ⟨by have := HK1.out; have := HK2.out; have := HK3.out; have := HJ25.out; first | omega | exact Nat.le_refl _⟩, ⟨by (try simp only [hl3_2]); (try simp only [hl3_3]); (with_reducible repeat (first | apply Kd.S_alloc | apply Kd.S_drewN | apply Kd.S_drew)); exact HO_3.out⟩, ⟨by repeat (first | (with_reducible exact HR114_0.out) | (with_reducible refine Kd.C_alloc ?_ _) | (with_reducible refine Kd.C_drewN ?_ _) | (with_reducible refine Kd.C_drew ?_) | exact HR114_0.out)⟩, ⟨bP HB⟩⟩
                  case rest =>
                   clear HC28
                   try clear c1
                   try clear p1
                   try clear q1
                   try clear hx1
                   try clear qi1
                   try clear hf1
                   try clear c2
                   try clear p2
                   try clear c3
                   try clear c4
                   try clear c4b0
                   try clear c6
                   try clear c6b0
                   try clear c6b1
                   try clear p6
                   try clear c7
                   try clear c7b0
                   try clear c7b1
                   try clear c8
                   try clear c11
                   try clear p11
                   try clear q11
                   try clear hx11
                   try clear qi11
                   try clear c13
                   try clear c13b0
                   try clear c13b1
                   try clear c14
                   try clear c14b0
                   try clear c14b1
                   try clear p15
                   try clear q15
                   try clear hx15
                   try clear qi15
                   try clear hf15
                   try clear c17
                   try clear q17
                   try clear c19
                   try clear c19b0
                   try clear c20
                   try clear c20b0
                   try clear c21
                   try clear c21b0
                   try clear c22
                   try clear c22b0
                   try clear c24
                   try clear c24b0
                   try clear c25
                   try clear c25b0
                   try clear c27
                   try clear c27b0
                   try clear c29
                   try clear c31
                   try clear c31b0
                   try clear c32
                   try clear c32b0
                   try clear c34
                   try clear c34b0
                   try clear c35
                   try clear c35b0
                   try clear hx110_0
                   try clear hx114_0
                   try clear hx115_0
                   try clear hx116_0
                   try clear hx117_0
                   try clear hx15_0
                   try clear p1
                   try clear p11
                   try clear p110
                   try clear p114
                   try clear p115
                   try clear p116
                   try clear p117
                   try clear p15
                   try clear p2
                   try clear p6
                   try clear q1
                   try clear q11
                   try clear q110
                   try clear q114
                   try clear q115
                   try clear q116
                   try clear q117
                   try clear q15
                   try clear q17
                   obtain ⟨kq, x7_27, rfl, HA, HJ27, HO_3, HR114_0, HB⟩ := hcut
                   cases kq with
                   | zero => exact absurd HA.out (by simp [spec_l3Table.j4])
                   | succ kj27 =>
                    have H := HA.out
                    clear HA
                    simp only [spec_l3Table.j4] at H
                    have H' := Aside0.mk H
                    clear H
                    go_wp2
                    go_loopg [7, 8] kj27 (fun kq v7 v8 w' => ∃ (x7_6 : Int) (x8_6 : Int), v7 = .int .i64 x7_6 ∧ v8 = .int .i64 x8_6 ∧ Aside0 (spec_l3Table.l3 kq a0 x3_3 x5_2 x6_3 x7_6 x8_6 = some r) ∧ Aside0 (kq ≤ kj27) ∧ Aside0 (Kd.S (Kd.slice 3 (Kd.int .i64)) 33 w' w.heap.size (fun _ => True) (.slice (some ad110) x3_3.length co16) x3_3) ∧ Aside0 (Kd.C (Kd.int .i64) w' (some ad115) (rd_L1 x3_3 x6_3).length (rd_L1 x3_3 x6_3)) ∧ Aside0 (Below w.heap.size w w'))
                    case atStart => exact ⟨(x7_27), (1), eS, eS, H', ⟨Nat.le_refl _⟩, ⟨by (try simp only [hl3_2]); (try simp only [hl3_3]); (with_reducible repeat (first | apply Kd.S_alloc | apply Kd.S_drewN | apply Kd.S_drew)); exact HO_3.out⟩, ⟨by repeat (first | (with_reducible exact HR114_0.out) | (with_reducible refine Kd.C_alloc ?_ _) | (with_reducible refine Kd.C_drewN ?_ _) | (with_reducible refine Kd.C_drew ?_) | exact HR114_0.out)⟩, ⟨bP HB⟩⟩
                    case round =>
                     clear H'
                     try clear c1
                     try clear p1
                     try clear q1
                     try clear hx1
                     try clear qi1
                     try clear hf1
                     try clear c2
                     try clear p2
                     try clear c3
                     try clear c4
                     try clear c4b0
                     try clear c6
                     try clear c6b0
                     try clear c6b1
                     try clear p6
                     try clear c7
                     try clear c7b0
                     try clear c7b1
                     try clear c8
                     try clear c11
                     try clear p11
                     try clear q11
                     try clear hx11
                     try clear qi11
                     try clear c13
                     try clear c13b0
                     try clear c13b1
                     try clear c14
                     try clear c14b0
                     try clear c14b1
                     try clear p15
                     try clear q15
                     try clear hx15
                     try clear qi15
                     try clear hf15
                     try clear c17
                     try clear q17
                     try clear c19
                     try clear c19b0
                     try clear c20
                     try clear c20b0
                     try clear c21
                     try clear c21b0
                     try clear c22
                     try clear c22b0
                     try clear c24
                     try clear c24b0
                     try clear c25
                     try clear c25b0
                     try clear c27
                     try clear c27b0
                     try clear c29
                     try clear c31
                     try clear c31b0
                     try clear c32
                     try clear c32b0
                     try clear c34
                     try clear c34b0
                     try clear c35
                     try clear c35b0
                     try clear hx110_0
                     try clear hx114_0
                     try clear hx115_0
                     try clear hx116_0
                     try clear hx117_0
                     try clear hx15_0
                     try clear p1
                     try clear p11
                     try clear p110
                     try clear p114
                     try clear p115
                     try clear p116
                     try clear p117
                     try clear p15
                     try clear p2
                     try clear p6
                     try clear q1
                     try clear q11
                     try clear q110
                     try clear q114
                     try clear q115
                     try clear q116
                     try clear q117
                     try clear q15
                     try clear q17
                     obtain ⟨x7_6, x8_6, rfl, rfl, HA, HK6, HO_3, HR114_0, HB⟩ := hrel
                     cases gk with
                     | zero => exact absurd HA.out (by simp [spec_l3Table.l3])
                     | succ k6 =>
                      have H := HA.out
                      clear HA
                      simp only [spec_l3Table.l3] at H
                      by_cases c36 : x8_6 < x5_2
                      ·rw [if_pos c36] at H
                       have c36b0 : decide (x8_6 < x5_2) = true := decide_eq_true c36
                       clear c36
                       have H' := Aside0.mk H
                       clear H
                       go_wp2
                       go_loopg [7, 9] k6 (fun kq v7 v9 w' => ∃ (x7_7 : Int) (x9_7 : Int), v7 = .int .i64 x7_7 ∧ v9 = .int .i64 x9_7 ∧ Aside0 (spec_l3Table.l4 kq a0 x3_3 x5_2 x6_3 x7_7 x8_6 x9_7 = some r) ∧ Aside0 (kq ≤ k6) ∧ Aside0 (Kd.S (Kd.slice 3 (Kd.int .i64)) 33 w' w.heap.size (fun _ => True) (.slice (some ad110) x3_3.length co16) x3_3) ∧ Aside0 (Kd.C (Kd.int .i64) w' (some ad115) (rd_L1 x3_3 x6_3).length (rd_L1 x3_3 x6_3)) ∧ Aside0 (Below w.heap.size w w'))
                       case atStart => exact ⟨(x7_6), (0), eS, eS, H', ⟨Nat.le_refl _⟩, ⟨by (try simp only [hl3_2]); (try simp only [hl3_3]); (with_reducible repeat (first | apply Kd.S_alloc | apply Kd.S_drewN | apply Kd.S_drew)); exact HO_3.out⟩, ⟨by repeat (first | (with_reducible exact HR114_0.out) | (with_reducible refine Kd.C_alloc ?_ _) | (with_reducible refine Kd.C_drewN ?_ _) | (with_reducible refine Kd.C_drew ?_) | exact HR114_0.out)⟩, ⟨bP HB⟩⟩
                       case round =>
                        clear H'
                        try clear c1
                        try clear p1
                        try clear q1
                        try clear hx1
                        try clear qi1
                        try clear hf1
                        try clear c2
                        try clear p2
                        try clear c3
                        try clear c4
                        try clear c4b0
                        try clear c6
                        try clear c6b0
                        try clear c6b1
                        try clear p6
                        try clear c7
                        try clear c7b0
                        try clear c7b1
                        try clear c8
                        try clear c11
                        try clear p11
                        try clear q11
                        try clear hx11
                        try clear qi11
                        try clear c13
                        try clear c13b0
                        try clear c13b1
                        try clear c14
                        try clear c14b0
                        try clear c14b1
                        try clear p15
                        try clear q15
                        try clear hx15
                        try clear qi15
                        try clear hf15
                        try clear c17
                        try clear q17
                        try clear c19
                        try clear c19b0
                        try clear c20
                        try clear c20b0
                        try clear c21
                        try clear c21b0
                        try clear c22
                        try clear c22b0
                        try clear c24
                        try clear c24b0
                        try clear c25
                        try clear c25b0
                        try clear c27
                        try clear c27b0
                        try clear c29
                        try clear c31
                        try clear c31b0
                        try clear c32
                        try clear c32b0
                        try clear c34
                        try clear c34b0
                        try clear c35
                        try clear c35b0
                        try clear c36
                        try clear c36b0
                        try clear hx110_0
                        try clear hx114_0
                        try clear hx115_0
                        try clear hx116_0
                        try clear hx117_0
                        try clear hx15_0
                        try clear p1
                        try clear p11
                        try clear p110
                        try clear p114
                        try clear p115
                        try clear p116
                        try clear p117
                        try clear p15
                        try clear p2
                        try clear p6
                        try clear q1
                        try clear q11
                        try clear q110
                        try clear q114
                        try clear q115
                        try clear q116
                        try clear q117
                        try clear q15
                        try clear q17
                        obtain ⟨x7_7, x9_7, rfl, rfl, HA, HK7, HO_3, HR114_0, HB⟩ := hrel
                        cases gk with
                        | zero => exact absurd HA.out (by simp [spec_l3Table.l4])
                        | succ k7 =>
                         have H := HA.out
                         clear HA
                         simp only [spec_l3Table.l4] at H
                         by_cases c37 : x9_7 ≤ x6_3
                         ·rw [if_pos c37] at H
                          have c37b0 : decide (x9_7 ≤ x6_3) = true := decide_eq_true c37
                          clear c37
                          by_cases c38 : 0 ≤ x9_7
                          ·rw [if_pos c38] at H
                           have c38b0 : decide (0 ≤ x9_7) = true := decide_eq_true c38
                           clear c38
                           by_cases c39 : x9_7 < (x3_3.length : Int)
                           ·rw [if_pos c39] at H
                            have c39b0 : decide (x9_7 < (x3_3.length : Int)) = true := decide_eq_true c39
                            clear c39
                            obtain ⟨ji40, hji40⟩ : ∃ j_ : Int, (wrap64 (x8_6 - 1)) = j_ := ⟨_, rfl⟩
                            replace H : (if 0 ≤ (ji40) then (if (ji40) < ((rd_L1 x3_3 x9_7).length : Int) then (if 0 ≤ (wrap64 (x6_3 - x9_7)) then (if (wrap64 (x6_3 - x9_7)) < (x3_3.length : Int) then (if 0 ≤ (wrap64 ((wrap64 (x5_2 - x8_6)) - 1)) then (if (wrap64 ((wrap64 (x5_2 - x8_6)) - 1)) < ((rd_L1 x3_3 (wrap64 (x6_3 - x9_7))).length : Int) then (spec_l3Table.l4 k7 a0 x3_3 x5_2 x6_3 (wrap64 (x7_7 + (wrap64 ((wrap64 ((wrap64 ((wrap64 (6 * (wrap64 ((wrap64 (2 * x8_6)) - 1)))) * (wrap64 ((wrap64 (2 * (wrap64 (x5_2 - x8_6)))) - 1)))) * (rd (rd_L1 x3_3 x9_7) (ji40)))) * (rd (rd_L1 x3_3 (wrap64 (x6_3 - x9_7))) (wrap64 ((wrap64 (x5_2 - x8_6)) - 1))))))) x8_6 (wrap64 (x9_7 + 1))) else (none)) else (none)) else (none)) else (none)) else (none)) else (none)) = some r := by first | (rw [hji40] at H; exact H) | (simp only [hji40] at H ⊢; exact H)
                            have hji40w : (IntKind.i64.wrap (x8_6 - 1)) = ji40 := (i64_w _).trans hji40
                            by_cases c41 : 0 ≤ (ji40)
                            ·rw [if_pos c41] at H
                             have c41b0 : decide (0 ≤ (ji40)) = true := decide_eq_true c41
                             clear c41
                             by_cases c42 : (ji40) < ((rd_L1 x3_3 x9_7).length : Int)
                             ·rw [if_pos c42] at H
                              have c42b0 : decide ((ji40) < ((rd_L1 x3_3 x9_7).length : Int)) = true := decide_eq_true c42
                              clear c42
                              obtain ⟨ji43, hji43⟩ : ∃ j_ : Int, (wrap64 (x6_3 - x9_7)) = j_ := ⟨_, rfl⟩
                              replace H : (if 0 ≤ (ji43) then (if (ji43) < (x3_3.length : Int) then (if 0 ≤ (wrap64 ((wrap64 (x5_2 - x8_6)) - 1)) then (if (wrap64 ((wrap64 (x5_2 - x8_6)) - 1)) < ((rd_L1 x3_3 (ji43)).length : Int) then (spec_l3Table.l4 k7 a0 x3_3 x5_2 x6_3 (wrap64 (x7_7 + (wrap64 ((wrap64 ((wrap64 ((wrap64 (6 * (wrap64 ((wrap64 (2 * x8_6)) - 1)))) * (wrap64 ((wrap64 (2 * (wrap64 (x5_2 - x8_6)))) - 1)))) * (rd (rd_L1 x3_3 x9_7) (ji40)))) * (rd (rd_L1 x3_3 (ji43)) (wrap64 ((wrap64 (x5_2 - x8_6)) - 1))))))) x8_6 (wrap64 (x9_7 + 1))) else (none)) else (none)) else (none)) else (none)) = some r := by first | (rw [hji43] at H; exact H) | (simp only [hji43] at H ⊢; exact H)
                              have hji43w : (IntKind.i64.wrap (x6_3 - x9_7)) = ji43 := (i64_w _).trans hji43
                              by_cases c44 : 0 ≤ (ji43)
                              ·rw [if_pos c44] at H
                               have c44b0 : decide (0 ≤ (ji43)) = true := decide_eq_true c44
                               clear c44
                               by_cases c45 : (ji43) < (x3_3.length : Int)
                               ·rw [if_pos c45] at H
                                have c45b0 : decide ((ji43) < (x3_3.length : Int)) = true := decide_eq_true c45
                                clear c45
                                obtain ⟨ji46, hji46⟩ : ∃ j_ : Int, (wrap64 ((wrap64 (x5_2 - x8_6)) - 1)) = j_ := ⟨_, rfl⟩
                                replace H : (if 0 ≤ (ji46) then (if (ji46) < ((rd_L1 x3_3 (ji43)).length : Int) then (spec_l3Table.l4 k7 a0 x3_3 x5_2 x6_3 (wrap64 (x7_7 + (wrap64 ((wrap64 ((wrap64 ((wrap64 (6 * (wrap64 ((wrap64 (2 * x8_6)) - 1)))) * (wrap64 ((wrap64 (2 * (wrap64 (x5_2 - x8_6)))) - 1)))) * (rd (rd_L1 x3_3 x9_7) (ji40)))) * (rd (rd_L1 x3_3 (ji43)) (ji46)))))) x8_6 (wrap64 (x9_7 + 1))) else (none)) else (none)) = some r := by first | (rw [hji46] at H; exact H) | (simp only [hji46] at H ⊢; exact H)
                                have hji46w : (IntKind.i64.wrap ((wrap64 (x5_2 - x8_6)) - 1)) = ji46 := (i64_w _).trans hji46
                                by_cases c47 : 0 ≤ (ji46)
                                ·rw [if_pos c47] at H
                                 have c47b0 : decide (0 ≤ (ji46)) = true := decide_eq_true c47
                                 clear c47
                                 by_cases c48 : (ji46) < ((rd_L1 x3_3 (ji43)).length : Int)
                                 ·rw [if_pos c48] at H
                                  have c48b0 : decide ((ji46) < ((rd_L1 x3_3 (ji43)).length : Int)) = true := decide_eq_true c48
                                  clear c48
                                  have H' := Aside0.mk H
                                  clear H
                                  try go_wp2
                                  have n0_ := Aside0.mk (Kd.S_drew HO_3.out)
                                  have n1_ := Aside0.mk (Kd.C_drew HR114_0.out)
                                  have n2_ := Aside0.mk (below_drew1 HB.out)
                                  clear HO_3
                                  clear HR114_0
                                  clear HB
                                  have HO_3 := n0_
                                  have HR114_0 := n1_
                                  have HB := n2_
                                  clear n0_ n1_ n2_
                                  have p122 : 0 ≤ (x9_7 : Int) := dT
                                  have q122 : x9_7 < (x3_3.length : Int) := dT
                                  obtain ⟨ad122, A122_0, c122_0, e122, hx122_0, hl122_0, hi122_0⟩ := at_L1 (Kd.S_reads' HO_3.out).2.2 x9_7 p122 q122
                                  obtain rfl : ad110 = ad122 := (by injection e122)
                                  obtain ⟨ce122, hce122, hMe122, hcc122⟩ := Kd.S_get HO_3.out [] x9_7 p122 (by first | exact q122 | exact dT | (have e_ := (Kd.S_reads' HO_3.out).1; omega))
                                  obtain ⟨ve122_0, rfl, ge122_0⟩ := hMe122
                                  have hv122_0 := hcc122 0 _ rfl
                                  rw [Nat.add_zero, show ((Kd.slice 3 (Kd.int .i64))).sz = 1 from rfl, Nat.mul_one] at hv122_0
                                  replace hv122_0 := Option.some.inj (hv122_0.symm.trans hx122_0)
                                  rw [hv122_0] at ge122_0
                                  have HL122_0 := Aside0.mk (show Kd.R (Kd.int .i64) 3 _ _ _ _ (rd_L1 x3_3 x9_7) from ge122_0)
                                  clear hv122_0 ge122_0
                                  have HX122_0 := Aside0.mk hx122_0
                                  clear hcc122 hce122
                                  have HR122_0 := Aside0.mk hi122_0
                                  have HC122_0 := Aside0.mk hl122_0
                                  clear hi122_0 hl122_0
                                  replace p122 := eq_true p122
                                  replace q122 := eq_true q122
                                  have p123 : 0 ≤ ((ji40) : Int) := dT
                                  have q123 : (ji40) < ((rd_L1 x3_3 x9_7).length : Int) := dT
                                  obtain ⟨ad123, e123, hx123_0⟩ := Kd.at_int (by repeat (first | (with_reducible exact HR122_0.out) | (with_reducible refine Kd.C_alloc ?_ _) | (with_reducible refine Kd.C_drewN ?_ _) | (with_reducible refine Kd.C_drew ?_) | exact HR122_0.out)) (ji40) p123 q123
                                  cases e123
                                  replace p123 := eq_true p123
                                  replace q123 := eq_true q123
                                  have p124 : 0 ≤ ((ji43) : Int) := dT
                                  have q124 : (ji43) < (x3_3.length : Int) := dT
                                  obtain ⟨ad124, A124_0, c124_0, e124, hx124_0, hl124_0, hi124_0⟩ := at_L1 (Kd.S_reads' HO_3.out).2.2 (ji43) p124 q124
                                  obtain rfl : ad110 = ad124 := (by injection e124)
                                  obtain ⟨ce124, hce124, hMe124, hcc124⟩ := Kd.S_get HO_3.out [] (ji43) p124 (by first | exact q124 | exact dT | (have e_ := (Kd.S_reads' HO_3.out).1; omega))
                                  obtain ⟨ve124_0, rfl, ge124_0⟩ := hMe124
                                  have hv124_0 := hcc124 0 _ rfl
                                  rw [Nat.add_zero, show ((Kd.slice 3 (Kd.int .i64))).sz = 1 from rfl, Nat.mul_one] at hv124_0
                                  replace hv124_0 := Option.some.inj (hv124_0.symm.trans hx124_0)
                                  rw [hv124_0] at ge124_0
                                  have HL124_0 := Aside0.mk (show Kd.R (Kd.int .i64) 3 _ _ _ _ (rd_L1 x3_3 (ji43)) from ge124_0)
                                  clear hv124_0 ge124_0
                                  have HX124_0 := Aside0.mk hx124_0
                                  clear hcc124 hce124
                                  have HR124_0 := Aside0.mk hi124_0
                                  have HC124_0 := Aside0.mk hl124_0
                                  clear hi124_0 hl124_0
                                  replace p124 := eq_true p124
                                  replace q124 := eq_true q124
                                  have p125 : 0 ≤ ((ji46) : Int) := dT
                                  have q125 : (ji46) < ((rd_L1 x3_3 (ji43)).length : Int) := dT
                                  obtain ⟨ad125, e125, hx125_0⟩ := Kd.at_int (by repeat (first | (with_reducible exact HR124_0.out) | (with_reducible refine Kd.C_alloc ?_ _) | (with_reducible refine Kd.C_drewN ?_ _) | (with_reducible refine Kd.C_drew ?_) | exact HR124_0.out)) (ji46) p125 q125
                                  cases e125
                                  replace p125 := eq_true p125
                                  replace q125 := eq_true q125
                                  refine start_ (n := 35) (S := fun w' => w'.cell? (ad110.add (x9_7).toNat) = some (.slice (some ad123) (rd_L1 x3_3 x9_7).length c122_0) ∧ w'.cell? (ad123.add ((ji40)).toNat) = some (.int .i64 (rd (rd_L1 x3_3 x9_7) (ji40))) ∧ w'.cell? (ad110.add ((ji43)).toNat) = some (.slice (some ad125) (rd_L1 x3_3 (ji43)).length c124_0) ∧ w'.cell? (ad125.add ((ji46)).toNat) = some (.int .i64 (rd (rd_L1 x3_3 (ji43)) (ji46)))) (ds := []) #[false, false, false, false, false, false, false, false, false, false, false, false, false, false, false, false, false, false, false, false, false, false, false, false, false, false, false, false, false, false, false, false, false, false, false] (by kernel_rfl) rfl rfl ⟨hx122_0, hx123_0, hx124_0, hx125_0⟩ (fun hHeld => ?_); refine with_tabW spec_l3Table.tab22 spec_l3Table.bits22 (fun HT_ HW_ => ?_)
                                  generalize wr.drew = w49 at HO_3 HR114_0 HB HL122_0 HL124_0 HR122_0 HR124_0 HX122_0 HX124_0 hx122_0 hx123_0 hx124_0 hx125_0 hHeld ⊢
                                  refine pure_ (i := 0) (N := some 86) (v := ?_) (a' := ?_) #[true, false, false, false, false, false, false, false, false, false, false, false, false, false, false, false, false, false, false, false, false, false, false, false, false, false, false, false, false, false, false, false, false, false, false] rfl rfl (any_of HT_.out (by kernel_rfl)) (fun _ _ _ h => h) (Or.inl ⟨by rfl, ?_⟩) ?_ ?_
                                  rotate_left
                                  ·intro w'
                                   go_simp
                                   with_reducible rfl
                                  rotate_left
                                  ·simp only [Act.put, List.setIfInBounds_toArray, List.set_cons_zero, List.set_cons_succ, i64_w, i32_w]
                                   rfl
                                  refine pure_ (i := 1) (N := some 87) (v := ?_) (a' := ?_) #[true, true, false, false, false, false, false, false, false, false, false, false, false, false, false, false, false, false, false, false, false, false, false, false, false, false, false, false, false, false, false, false, false, false, false] rfl rfl (any_of HT_.out (by kernel_rfl)) (fun _ _ _ h => h) (Or.inl ⟨by rfl, ?_⟩) ?_ ?_
                                  rotate_left
                                  ·intro w'
                                   go_simp
                                   with_reducible rfl
                                  rotate_left
                                  ·simp only [Act.put, List.setIfInBounds_toArray, List.set_cons_zero, List.set_cons_succ, i64_w, i32_w]
                                   rfl
                                  refine pure_ (i := 2) (N := some 88) (v := ?_) (a' := ?_) #[true, true, true, false, false, false, false, false, false, false, false, false, false, false, false, false, false, false, false, false, false, false, false, false, false, false, false, false, false, false, false, false, false, false, false] rfl rfl (any_of HT_.out (by kernel_rfl)) (fun _ _ _ h => h) (Or.inl ⟨by rfl, ?_⟩) ?_ ?_
                                  rotate_left
                                  ·intro w'
                                   go_simp
                                   with_reducible rfl
                                  rotate_left
                                  ·simp only [Act.put, List.setIfInBounds_toArray, List.set_cons_zero, List.set_cons_succ, i64_w, i32_w]
                                   rfl
                                  refine pure_ (i := 3) (N := some 89) (v := ?_) (a' := ?_) #[true, true, true, true, false, false, false, false, false, false, false, false, false, false, false, false, false, false, false, false, false, false, false, false, false, false, false, false, false, false, false, false, false, false, false] rfl rfl (any_of HT_.out (by kernel_rfl)) (fun _ _ _ h => h) (Or.inl ⟨by rfl, ?_⟩) ?_ ?_
                                  rotate_left
                                  ·intro w'
                                   go_simp
                                   with_reducible rfl
                                  rotate_left
                                  ·simp only [Act.put, List.setIfInBounds_toArray, List.set_cons_zero, List.set_cons_succ, i64_w, i32_w]
                                   rfl
                                  refine pure_ (i := 4) (N := some 90) (v := ?_) (a' := ?_) #[true, true, true, true, true, false, false, false, false, false, false, false, false, false, false, false, false, false, false, false, false, false, false, false, false, false, false, false, false, false, false, false, false, false, false] rfl rfl (any_of HT_.out (by kernel_rfl)) (fun _ _ _ h => h) (Or.inl ⟨by rfl, ?_⟩) ?_ ?_
                                  rotate_left
                                  ·intro w'
                                   go_simp
                                   with_reducible rfl
                                  rotate_left
                                  ·simp only [Act.put, List.setIfInBounds_toArray, List.set_cons_zero, List.set_cons_succ, i64_w, i32_w]
                                   rfl
                                  refine pure_ (i := 5) (N := some 91) (v := ?_) (a' := ?_) #[true, true, true, true, true, true, false, false, false, false, false, false, false, false, false, false, false, false, false, false, false, false, false, false, false, false, false, false, false, false, false, false, false, false, false] rfl rfl (any_of HT_.out (by kernel_rfl)) (fun _ _ _ h => h) (Or.inl ⟨by rfl, ?_⟩) ?_ ?_
                                  rotate_left
                                  ·intro w'
                                   go_simp
                                   with_reducible rfl
                                  rotate_left
                                  ·simp only [Act.put, List.setIfInBounds_toArray, List.set_cons_zero, List.set_cons_succ, i64_w, i32_w]
                                   rfl
                                  refine pure_ (i := 6) (N := some 92) (v := ?_) (a' := ?_) #[true, true, true, true, true, true, true, false, false, false, false, false, false, false, false, false, false, false, false, false, false, false, false, false, false, false, false, false, false, false, false, false, false, false, false] rfl rfl (any_of HT_.out (by kernel_rfl)) (fun _ _ _ h => h) (Or.inl ⟨by rfl, ?_⟩) ?_ ?_
                                  rotate_left
                                  ·intro w'
                                   go_simp
                                   with_reducible rfl
                                  rotate_left
                                  ·simp only [Act.put, List.setIfInBounds_toArray, List.set_cons_zero, List.set_cons_succ, i64_w, i32_w]
                                   rfl
                                  refine pure_ (i := 7) (N := some 93) (v := ?_) (a' := ?_) #[true, true, true, true, true, true, true, true, false, false, false, false, false, false, false, false, false, false, false, false, false, false, false, false, false, false, false, false, false, false, false, false, false, false, false] rfl rfl (any_of HT_.out (by kernel_rfl)) (fun _ _ _ h => h) (Or.inl ⟨by rfl, ?_⟩) ?_ ?_
                                  rotate_left
                                  ·intro w'
                                   go_simp
                                   with_reducible rfl
                                  rotate_left
                                  ·simp only [Act.put, List.setIfInBounds_toArray, List.set_cons_zero, List.set_cons_succ, i64_w, i32_w]
                                   rfl
                                  refine pure_ (i := 8) (N := some 94) (v := ?_) (a' := ?_) #[true, true, true, true, true, true, true, true, true, false, false, false, false, false, false, false, false, false, false, false, false, false, false, false, false, false, false, false, false, false, false, false, false, false, false] rfl rfl (any_of HT_.out (by kernel_rfl)) (fun _ _ _ h => h) (Or.inl ⟨by rfl, ?_⟩) ?_ ?_
                                  rotate_left
                                  ·intro w'
                                   go_simp
                                   with_reducible rfl
                                  rotate_left
                                  ·simp only [Act.put, List.setIfInBounds_toArray, List.set_cons_zero, List.set_cons_succ, i64_w, i32_w]
                                   rfl
                                  refine pure_ (i := 9) (N := some 95) (v := ?_) (a' := ?_) #[true, true, true, true, true, true, true, true, true, true, false, false, false, false, false, false, false, false, false, false, false, false, false, false, false, false, false, false, false, false, false, false, false, false, false] rfl rfl (any_of HT_.out (by kernel_rfl)) (fun _ _ _ h => h) (Or.inl ⟨by rfl, ?_⟩) ?_ ?_
                                  rotate_left
                                  ·intro w'
                                   go_simp
                                   with_reducible rfl
                                  rotate_left
                                  ·simp only [Act.put, List.setIfInBounds_toArray, List.set_cons_zero, List.set_cons_succ, i64_w, i32_w]
                                   rfl
                                  refine pure_ (i := 10) (N := some 96) (v := ?_) (a' := ?_) #[true, true, true, true, true, true, true, true, true, true, true, false, false, false, false, false, false, false, false, false, false, false, false, false, false, false, false, false, false, false, false, false, false, false, false] rfl rfl (any_of HT_.out (by kernel_rfl)) (fun _ _ _ h => h) (Or.inl ⟨by rfl, ?_⟩) ?_ ?_
                                  rotate_left
                                  ·intro w'
                                   go_simp
                                   with_reducible rfl
                                  rotate_left
                                  ·simp only [Act.put, List.setIfInBounds_toArray, List.set_cons_zero, List.set_cons_succ, i64_w, i32_w]
                                   rfl
                                  refine pure_ (i := 11) (N := some 97) (v := ?_) (a' := ?_) #[true, true, true, true, true, true, true, true, true, true, true, true, false, false, false, false, false, false, false, false, false, false, false, false, false, false, false, false, false, false, false, false, false, false, false] rfl rfl (any_of HT_.out (by kernel_rfl)) (fun _ _ _ h => h) (Or.inl ⟨by rfl, ?_⟩) ?_ ?_
                                  rotate_left
                                  ·intro w'
                                   go_simp
                                   with_reducible rfl
                                  rotate_left
                                  ·simp only [Act.put, List.setIfInBounds_toArray, List.set_cons_zero, List.set_cons_succ, i64_w, i32_w]
                                   rfl
                                  refine pure_ (i := 12) (N := some 98) (v := ?_) (a' := ?_) #[true, true, true, true, true, true, true, true, true, true, true, true, true, false, false, false, false, false, false, false, false, false, false, false, false, false, false, false, false, false, false, false, false, false, false] rfl rfl (any_of HT_.out (by kernel_rfl)) (fun _ _ _ h => h) (Or.inl ⟨by rfl, ?_⟩) ?_ ?_
                                  rotate_left
                                  ·intro w'
                                   go_simp
                                   with_reducible rfl
                                  rotate_left
                                  ·simp only [Act.put, List.setIfInBounds_toArray, List.set_cons_zero, List.set_cons_succ, i64_w, i32_w]
                                   rfl
                                  refine pure_ (i := 13) (N := some 99) (v := ?_) (a' := ?_) #[true, true, true, true, true, true, true, true, true, true, true, true, true, true, false, false, false, false, false, false, false, false, false, false, false, false, false, false, false, false, false, false, false, false, false] rfl rfl (any_of HT_.out (by kernel_rfl)) (fun _ _ _ h => h) (Or.inl ⟨by rfl, ?_⟩) ?_ ?_
                                  rotate_left
                                  ·intro w'
                                   go_simp
                                   with_reducible rfl
                                  rotate_left
                                  ·simp only [Act.put, List.setIfInBounds_toArray, List.set_cons_zero, List.set_cons_succ, i64_w, i32_w]
                                   rfl
                                  refine pure_ (i := 15) (N := some 101) (v := ?_) (a' := ?_) #[true, true, true, true, true, true, true, true, true, true, true, true, true, true, false, true, false, false, false, false, false, false, false, false, false, false, false, false, false, false, false, false, false, false, false] rfl rfl (any_of HT_.out (by kernel_rfl)) (fun _ _ _ h => h) (Or.inl ⟨by rfl, ?_⟩) ?_ ?_
                                  rotate_left
                                  ·intro w'
                                   go_simp
                                   with_reducible rfl
                                  rotate_left
                                  ·simp only [Act.put, List.setIfInBounds_toArray, List.set_cons_zero, List.set_cons_succ, i64_w, i32_w]
                                   rfl
                                  refine pure_ (i := 16) (N := some 102) (v := ?_) (a' := ?_) #[true, true, true, true, true, true, true, true, true, true, true, true, true, true, false, true, true, false, false, false, false, false, false, false, false, false, false, false, false, false, false, false, false, false, false] rfl rfl (any_of HT_.out (by kernel_rfl)) (fun _ _ _ h => h) (Or.inl ⟨by rfl, ?_⟩) ?_ ?_
                                  rotate_left
                                  ·intro w'
                                   go_simp
                                   with_reducible rfl
                                  rotate_left
                                  ·simp only [Act.put, List.setIfInBounds_toArray, List.set_cons_zero, List.set_cons_succ, i64_w, i32_w]
                                   rfl
                                  refine pure_ (i := 20) (N := some 106) (v := ?_) (a' := ?_) #[true, true, true, true, true, true, true, true, true, true, true, true, true, true, false, true, true, false, false, false, true, false, false, false, false, false, false, false, false, false, false, false, false, false, false] rfl rfl (any_of HT_.out (by kernel_rfl)) (fun _ _ _ h => h) (Or.inl ⟨by rfl, ?_⟩) ?_ ?_
                                  rotate_left
                                  ·intro w'
                                   go_simp
                                   with_reducible rfl
                                  rotate_left
                                  ·simp only [Act.put, List.setIfInBounds_toArray, List.set_cons_zero, List.set_cons_succ, i64_w, i32_w]
                                   rfl
                                  refine pure_ (i := 21) (N := some 107) (v := ?_) (a' := ?_) #[true, true, true, true, true, true, true, true, true, true, true, true, true, true, false, true, true, false, false, false, true, true, false, false, false, false, false, false, false, false, false, false, false, false, false] rfl rfl (any_of HT_.out (by kernel_rfl)) (fun _ _ _ h => h) (Or.inl ⟨by rfl, ?_⟩) ?_ ?_
                                  rotate_left
                                  ·intro w'
                                   go_simp
                                   with_reducible rfl
                                  rotate_left
                                  ·simp only [Act.put, List.setIfInBounds_toArray, List.set_cons_zero, List.set_cons_succ, i64_w, i32_w]
                                   rfl
                                  refine pure_ (i := 22) (N := some 108) (v := ?_) (a' := ?_) #[true, true, true, true, true, true, true, true, true, true, true, true, true, true, false, true, true, false, false, false, true, true, true, false, false, false, false, false, false, false, false, false, false, false, false] rfl rfl (any_of HT_.out (by kernel_rfl)) (fun _ _ _ h => h) (Or.inl ⟨by rfl, ?_⟩) ?_ ?_
                                  rotate_left
                                  ·intro w'
                                   go_simp
                                   with_reducible rfl
                                  rotate_left
                                  ·simp only [Act.put, List.setIfInBounds_toArray, List.set_cons_zero, List.set_cons_succ, i64_w, i32_w]
                                   rfl
                                  refine pure_ (i := 23) (N := some 109) (v := ?_) (a' := ?_) #[true, true, true, true, true, true, true, true, true, true, true, true, true, true, false, true, true, false, false, false, true, true, true, true, false, false, false, false, false, false, false, false, false, false, false] rfl rfl (any_of HT_.out (by kernel_rfl)) (fun _ _ _ h => h) (Or.inl ⟨by rfl, ?_⟩) ?_ ?_
                                  rotate_left
                                  ·intro w'
                                   go_simp
                                   with_reducible rfl
                                  rotate_left
                                  ·simp only [Act.put, List.setIfInBounds_toArray, List.set_cons_zero, List.set_cons_succ, i64_w, i32_w]
                                   rfl
                                  refine pure_ (i := 24) (N := some 110) (v := ?_) (a' := ?_) #[true, true, true, true, true, true, true, true, true, true, true, true, true, true, false, true, true, false, false, false, true, true, true, true, true, false, false, false, false, false, false, false, false, false, false] rfl rfl (any_of HT_.out (by kernel_rfl)) (fun _ _ _ h => h) (Or.inl ⟨by rfl, ?_⟩) ?_ ?_
                                  rotate_left
                                  ·intro w'
                                   go_simp
                                   with_reducible rfl
                                  rotate_left
                                  ·simp only [Act.put, List.setIfInBounds_toArray, List.set_cons_zero, List.set_cons_succ, i64_w, i32_w]
                                   rfl
                                  refine pure_ (i := 26) (N := some 112) (v := ?_) (a' := ?_) #[true, true, true, true, true, true, true, true, true, true, true, true, true, true, false, true, true, false, false, false, true, true, true, true, true, false, true, false, false, false, false, false, false, false, false] rfl rfl (any_of HT_.out (by kernel_rfl)) (fun _ _ _ h => h) (Or.inl ⟨by rfl, ?_⟩) ?_ ?_
                                  rotate_left
                                  ·intro w'
                                   go_simp
                                   with_reducible rfl
                                  rotate_left
                                  ·simp only [Act.put, List.setIfInBounds_toArray, List.set_cons_zero, List.set_cons_succ, i64_w, i32_w]
                                   rfl
                                  refine pure_ (i := 27) (N := some 113) (v := ?_) (a' := ?_) #[true, true, true, true, true, true, true, true, true, true, true, true, true, true, false, true, true, false, false, false, true, true, true, true, true, false, true, true, false, false, false, false, false, false, false] rfl rfl (any_of HT_.out (by kernel_rfl)) (fun _ _ _ h => h) (Or.inl ⟨by rfl, ?_⟩) ?_ ?_
                                  rotate_left
                                  ·intro w'
                                   go_simp
                                   with_reducible rfl
                                  rotate_left
                                  ·simp only [Act.put, List.setIfInBounds_toArray, List.set_cons_zero, List.set_cons_succ, i64_w, i32_w]
                                   rfl
                                  refine pure_ (i := 28) (N := some 114) (v := ?_) (a' := ?_) #[true, true, true, true, true, true, true, true, true, true, true, true, true, true, false, true, true, false, false, false, true, true, true, true, true, false, true, true, true, false, false, false, false, false, false] rfl rfl (any_of HT_.out (by kernel_rfl)) (fun _ _ _ h => h) (Or.inl ⟨by rfl, ?_⟩) ?_ ?_
                                  rotate_left
                                  ·intro w'
                                   go_simp
                                   with_reducible rfl
                                  rotate_left
                                  ·simp only [Act.put, List.setIfInBounds_toArray, List.set_cons_zero, List.set_cons_succ, i64_w, i32_w]
                                   rfl
                                  refine pure_ (i := 29) (N := some 115) (v := ?_) (a' := ?_) #[true, true, true, true, true, true, true, true, true, true, true, true, true, true, false, true, true, false, false, false, true, true, true, true, true, false, true, true, true, true, false, false, false, false, false] rfl rfl (any_of HT_.out (by kernel_rfl)) (fun _ _ _ h => h) (Or.inl ⟨by rfl, ?_⟩) ?_ ?_
                                  rotate_left
                                  ·intro w'
                                   go_simp
                                   with_reducible rfl
                                  rotate_left
                                  ·simp only [Act.put, List.setIfInBounds_toArray, List.set_cons_zero, List.set_cons_succ, i64_w, i32_w]
                                   rfl
                                  refine take_ (i := 14) (N := some 100) (v := ?_) (a' := ?_) #[true, true, true, true, true, true, true, true, true, true, true, true, true, true, true, true, true, false, false, false, true, true, true, true, true, false, true, true, true, true, false, false, false, false, false] rfl rfl (take_ofW HT_.out HW_.out (by kernel_rfl)) (fun _ _ _ h => h) (Or.inl ⟨by rfl, ?_⟩) hHeld ?_ ?_
                                  rotate_left
                                  ·rintro w' ⟨s0, s1, s2, s3⟩
                                   go_simp
                                   with_reducible rfl
                                  rotate_left
                                  ·simp only [Act.put, List.setIfInBounds_toArray, List.set_cons_zero, List.set_cons_succ, i64_w, i32_w]
                                   rfl
                                  refine pure_ (i := 17) (N := some 103) (v := ?_) (a' := ?_) #[true, true, true, true, true, true, true, true, true, true, true, true, true, true, true, true, true, true, false, false, true, true, true, true, true, false, true, true, true, true, false, false, false, false, false] rfl rfl (any_of HT_.out (by kernel_rfl)) (fun _ _ _ h => h) (Or.inl ⟨by rfl, ?_⟩) ?_ ?_
                                  rotate_left
                                  ·intro w'
                                   go_simp
                                   with_reducible rfl
                                  rotate_left
                                  ·simp only [Act.put, List.setIfInBounds_toArray, List.set_cons_zero, List.set_cons_succ, i64_w, i32_w]
                                   rfl
                                  refine take_ (i := 18) (N := some 104) (v := ?_) (a' := ?_) #[true, true, true, true, true, true, true, true, true, true, true, true, true, true, true, true, true, true, true, false, true, true, true, true, true, false, true, true, true, true, false, false, false, false, false] rfl rfl (take_ofW HT_.out HW_.out (by kernel_rfl)) (fun _ _ _ h => h) (Or.inl ⟨by rfl, ?_⟩) hHeld ?_ ?_
                                  rotate_left
                                  ·rintro w' ⟨s0, s1, s2, s3⟩
                                   go_simp
                                   with_reducible rfl
                                  rotate_left
                                  ·simp only [Act.put, List.setIfInBounds_toArray, List.set_cons_zero, List.set_cons_succ, i64_w, i32_w]
                                   rfl
                                  refine pure_ (i := 19) (N := some 105) (v := ?_) (a' := ?_) #[true, true, true, true, true, true, true, true, true, true, true, true, true, true, true, true, true, true, true, true, true, true, true, true, true, false, true, true, true, true, false, false, false, false, false] rfl rfl (any_of HT_.out (by kernel_rfl)) (fun _ _ _ h => h) (Or.inl ⟨by rfl, ?_⟩) ?_ ?_
                                  rotate_left
                                  ·intro w'
                                   go_simp
                                   with_reducible rfl
                                  rotate_left
                                  ·simp only [Act.put, List.setIfInBounds_toArray, List.set_cons_zero, List.set_cons_succ, i64_w, i32_w]
                                   rfl
                                  refine take_ (i := 25) (N := some 111) (v := ?_) (a' := ?_) #[true, true, true, true, true, true, true, true, true, true, true, true, true, true, true, true, true, true, true, true, true, true, true, true, true, true, true, true, true, true, false, false, false, false, false] rfl rfl (take_ofW HT_.out HW_.out (by kernel_rfl)) (fun _ _ _ h => h) (Or.inl ⟨by rfl, ?_⟩) hHeld ?_ ?_
                                  rotate_left
                                  ·rintro w' ⟨s0, s1, s2, s3⟩
                                   go_simp
                                   with_reducible rfl
                                  rotate_left
                                  ·simp only [Act.put, List.setIfInBounds_toArray, List.set_cons_zero, List.set_cons_succ, i64_w, i32_w]
                                   rfl
                                  refine pure_ (i := 30) (N := some 116) (v := ?_) (a' := ?_) #[true, true, true, true, true, true, true, true, true, true, true, true, true, true, true, true, true, true, true, true, true, true, true, true, true, true, true, true, true, true, true, false, false, false, false] rfl rfl (any_of HT_.out (by kernel_rfl)) (fun _ _ _ h => h) (Or.inl ⟨by rfl, ?_⟩) ?_ ?_
                                  rotate_left
                                  ·intro w'
                                   go_simp
                                   with_reducible rfl
                                  rotate_left
                                  ·simp only [Act.put, List.setIfInBounds_toArray, List.set_cons_zero, List.set_cons_succ, i64_w, i32_w]
                                   rfl
                                  refine take_ (i := 31) (N := some 117) (v := ?_) (a' := ?_) #[true, true, true, true, true, true, true, true, true, true, true, true, true, true, true, true, true, true, true, true, true, true, true, true, true, true, true, true, true, true, true, true, false, false, false] rfl rfl (take_ofW HT_.out HW_.out (by kernel_rfl)) (fun _ _ _ h => h) (Or.inl ⟨by rfl, ?_⟩) hHeld ?_ ?_
                                  rotate_left
                                  ·rintro w' ⟨s0, s1, s2, s3⟩
                                   go_simp
                                   with_reducible rfl
                                  rotate_left
                                  ·simp only [Act.put, List.setIfInBounds_toArray, List.set_cons_zero, List.set_cons_succ, i64_w, i32_w]
                                   rfl
                                  refine pure_ (i := 32) (N := some 118) (v := ?_) (a' := ?_) #[true, true, true, true, true, true, true, true, true, true, true, true, true, true, true, true, true, true, true, true, true, true, true, true, true, true, true, true, true, true, true, true, true, false, false] rfl rfl (any_of HT_.out (by kernel_rfl)) (fun _ _ _ h => h) (Or.inl ⟨by rfl, ?_⟩) ?_ ?_
                                  rotate_left
                                  ·intro w'
                                   go_simp
                                   with_reducible rfl
                                  rotate_left
                                  ·simp only [Act.put, List.setIfInBounds_toArray, List.set_cons_zero, List.set_cons_succ, i64_w, i32_w]
                                   rfl
                                  refine pure_ (i := 33) (N := some 119) (v := ?_) (a' := ?_) #[true, true, true, true, true, true, true, true, true, true, true, true, true, true, true, true, true, true, true, true, true, true, true, true, true, true, true, true, true, true, true, true, true, true, false] rfl rfl (any_of HT_.out (by kernel_rfl)) (fun _ _ _ h => h) (Or.inl ⟨by rfl, ?_⟩) ?_ ?_
                                  rotate_left
                                  ·intro w'
                                   go_simp
                                   with_reducible rfl
                                  rotate_left
                                  ·simp only [Act.put, List.setIfInBounds_toArray, List.set_cons_zero, List.set_cons_succ, i64_w, i32_w]
                                   rfl
                                  refine pure_ (i := 34) (N := some 7) (v := ?_) (a' := ?_) #[true, true, true, true, true, true, true, true, true, true, true, true, true, true, true, true, true, true, true, true, true, true, true, true, true, true, true, true, true, true, true, true, true, true, true] rfl rfl (any_of HT_.out (by kernel_rfl)) (fun _ _ _ h => h) (Or.inl ⟨by rfl, ?_⟩) ?_ ?_
                                  rotate_left
                                  ·intro w'
                                   go_simp
                                   with_reducible rfl
                                  rotate_left
                                  ·simp only [Act.put, List.setIfInBounds_toArray, List.set_cons_zero, List.set_cons_succ, i64_w, i32_w]
                                   rfl
                                  refine done_ (done_of HT_.out (by kernel_rfl)) ?_
                                  try go_wp2
                                  go_roundg k7
                                  case measure => have := HK1.out; have := HK2.out; have := HK3.out; have := HJ25.out; have := HJ27.out; have := HK6.out; have := HK7.out; omega
                                  case rel => exact ⟨(wrap64 (x7_7 + (wrap64 ((wrap64 ((wrap64 ((wrap64 (6 * (wrap64 ((wrap64 (2 * x8_6)) - 1)))) * (wrap64 ((wrap64 (2 * (wrap64 (x5_2 - x8_6)))) - 1)))) * (rd (rd_L1 x3_3 x9_7) (ji40)))) * (rd (rd_L1 x3_3 (ji43)) (ji46)))))), (wrap64 (x9_7 + 1)), (by first | rfl | (simp; done) | (simp only [← hji40, ← hji43, ← hji46] <;> (first | rfl | simp)) | (simp [*]; done)), eS, H', ⟨by have := HK1.out; have := HK2.out; have := HK3.out; have := HJ25.out; have := HJ27.out; have := HK6.out; have := HK7.out; omega⟩, ⟨by (try simp only [hl3_2]); (try simp only [hl3_3]); (with_reducible repeat (first | apply Kd.S_alloc | apply Kd.S_drewN | apply Kd.S_drew)); exact HO_3.out⟩, ⟨by repeat (first | (with_reducible exact HR114_0.out) | (with_reducible refine Kd.C_alloc ?_ _) | (with_reducible refine Kd.C_drewN ?_ _) | (with_reducible refine Kd.C_drew ?_) | exact HR114_0.out)⟩, ⟨bP HB⟩⟩
                                 ·rw [if_neg c48] at H
                                  exact absurd H (by simp)
                                ·rw [if_neg c47] at H
                                 exact absurd H (by simp)
                               ·rw [if_neg c45] at H
                                exact absurd H (by simp)
                              ·rw [if_neg c44] at H
                               exact absurd H (by simp)
                             ·rw [if_neg c42] at H
                              exact absurd H (by simp)
                            ·rw [if_neg c41] at H
                             exact absurd H (by simp)
                           ·rw [if_neg c39] at H
                            exact absurd H (by simp)
                          ·rw [if_neg c38] at H
                           exact absurd H (by simp)
                         ·rw [if_neg c37] at H
                          have c37b0 : decide (x9_7 ≤ x6_3) = false := decide_eq_false c37
                          clear c37
                          have H' := Aside0.mk H
                          clear H
                          go_wp2
                          go_roundg k7
                          case measure => have := HK1.out; have := HK2.out; have := HK3.out; have := HJ25.out; have := HJ27.out; have := HK6.out; have := HK7.out; omega
                          case rel => exact ⟨(x7_7), (wrap64 (x8_6 + 1)), eS, eS, H', ⟨by have := HK1.out; have := HK2.out; have := HK3.out; have := HJ25.out; have := HJ27.out; have := HK6.out; have := HK7.out; omega⟩, ⟨by (try simp only [hl3_2]); (try simp only [hl3_3]); (with_reducible repeat (first | apply Kd.S_alloc | apply Kd.S_drewN | apply Kd.S_drew)); exact HO_3.out⟩, ⟨by repeat (first | (with_reducible exact HR114_0.out) | (with_reducible refine Kd.C_alloc ?_ _) | (with_reducible refine Kd.C_drewN ?_ _) | (with_reducible refine Kd.C_drew ?_) | exact HR114_0.out)⟩, ⟨bP HB⟩⟩
                      ·rw [if_neg c36] at H
                       have c36b0 : decide (x8_6 < x5_2) = false := decide_eq_false c36
                       clear c36
                       by_cases c50 : 0 ≤ x6_3
                       ·rw [if_pos c50] at H
                        have c50b0 : decide (0 ≤ x6_3) = true := decide_eq_true c50
                        clear c50
                        by_cases c51 : x6_3 < (x3_3.length : Int)
                        ·rw [if_pos c51] at H
                         have c51b0 : decide (x6_3 < (x3_3.length : Int)) = true := decide_eq_true c51
                         clear c51
                         by_cases c52 : (wrap64 (2 * (wrap64 (x5_2 + 1)))) = 0
                         ·rw [if_pos c52] at H
                          exact absurd H (by simp)
                         ·rw [if_neg c52] at H
                          have c52b0 : ((wrap64 (2 * (wrap64 (x5_2 + 1)))) == 0) = false := beq_eq_false_iff_ne.mpr c52
                          have c52b1 : ((wrap64 (2 * (wrap64 (x5_2 + 1)))) != 0) = true := bne_iff_ne.mpr c52
                          by_cases c53 : 0 ≤ x5_2
                          ·rw [if_pos c53] at H
                           have c53b0 : decide (0 ≤ x5_2) = true := decide_eq_true c53
                           clear c53
                           by_cases c54 : x5_2 < ((rd_L1 x3_3 x6_3).length : Int)
                           ·rw [if_pos c54] at H
                            have c54b0 : decide (x5_2 < ((rd_L1 x3_3 x6_3).length : Int)) = true := decide_eq_true c54
                            clear c54
                            obtain ⟨y119, hy119⟩ : ∃ y_ : List Int, y_ = ((rd_L1 x3_3 x6_3).set (x5_2 : Int).toNat (wrap64 (Int.tdiv x7_6 (wrap64 (2 * (wrap64 (x5_2 + 1))))))) := ⟨_, rfl⟩
                            replace H : (spec_l3Table.l2 k6 a0 (x3_3.set (x6_3 : Int).toNat y119) x5_2 (wrap64 (x6_3 + 1))) = some r := by first | (rw [hy119]; with_reducible exact H) | (have H2_ := (Option.bind_some _ _).symm.trans H; rw [hy119]; with_reducible exact H2_) | (have H2_ := (Option.bind_some _ _).symm.trans H; with_reducible exact H2_) | with_reducible exact H | (rw [hy119]; exact H) | exact H
                            have Ny119 := Aside0.mk hy119
                            clear hy119
                            obtain ⟨y121, hy121⟩ : ∃ y_ : List (List Int), y_ = (x3_3.set (x6_3 : Int).toNat y119) := ⟨_, rfl⟩
                            replace H : (spec_l3Table.l2 k6 a0 y121 x5_2 (wrap64 (x6_3 + 1))) = some r := by first | (rw [hy121]; with_reducible exact H) | (have H2_ := (Option.bind_some _ _).symm.trans H; rw [hy121]; with_reducible exact H2_) | (have H2_ := (Option.bind_some _ _).symm.trans H; with_reducible exact H2_) | with_reducible exact H | (rw [hy121]; exact H) | exact H
                            have Ny121 := Aside0.mk hy121
                            clear hy121
                            have H' := Aside0.mk H
                            clear H
                            try go_wp2
                            have n0_ := Aside0.mk (Kd.S_drew HO_3.out)
                            have n1_ := Aside0.mk (Kd.C_drew HR114_0.out)
                            have n2_ := Aside0.mk (below_drew1 HB.out)
                            clear HO_3
                            clear HR114_0
                            clear HB
                            have HO_3 := n0_
                            have HR114_0 := n1_
                            have HB := n2_
                            clear n0_ n1_ n2_
                            have p118 : 0 ≤ (x6_3 : Int) := dT
                            have q118 : x6_3 < (x3_3.length : Int) := dT
                            obtain ⟨ad118, A118_0, c118_0, e118, hx118_0, hl118_0, hi118_0⟩ := at_L1 (Kd.S_reads' HO_3.out).2.2 x6_3 p118 q118
                            obtain rfl : ad110 = ad118 := (by injection e118)
                            obtain ⟨ce118, hce118, hMe118, hcc118⟩ := Kd.S_get HO_3.out [] x6_3 p118 (by first | exact q118 | exact dT | (have e_ := (Kd.S_reads' HO_3.out).1; omega))
                            obtain ⟨ve118_0, rfl, ge118_0⟩ := hMe118
                            have hv118_0 := hcc118 0 _ rfl
                            rw [Nat.add_zero, show ((Kd.slice 3 (Kd.int .i64))).sz = 1 from rfl, Nat.mul_one] at hv118_0
                            replace hv118_0 := Option.some.inj (hv118_0.symm.trans hx118_0)
                            rw [hv118_0] at ge118_0
                            have HL118_0 := Aside0.mk (show Kd.R (Kd.int .i64) 3 _ _ _ _ (rd_L1 x3_3 x6_3) from ge118_0)
                            clear hv118_0 ge118_0
                            have HX118_0 := Aside0.mk hx118_0
                            clear hcc118 hce118
                            have HR118_0 := Aside0.mk hi118_0
                            have HC118_0 := Aside0.mk hl118_0
                            clear hi118_0 hl118_0
                            replace p118 := eq_true p118
                            replace q118 := eq_true q118
                            have p55 : 0 ≤ (x5_2 : Int) := dT
                            have q55 : (x5_2 : Int) < (((rd_L1 x3_3 x6_3).length : Int) : Int) := dT
                            obtain ⟨go55, co55, eo55, gb55, gl55, cl55, HG55⟩ := Kd.R_form HL118_0.out (by omega)
                            (first | cases eo55 | (injection eo55 with ea_ en_ ec_; (first | subst ea_ | (injection ea_ with ea_; subst ea_)); subst ec_; clear en_))
                            have GB55 := Aside0.mk gb55
                            have GG55 := Aside0.mk HG55
                            clear gb55 gl55 HG55
                            obtain ⟨hx55_0, hf55_0⟩ := Kd.R_celln 0 HL118_0.out (x5_2 : Int) p55 q55
                            replace p55 := eq_true p55
                            replace q55 := eq_true q55
                            have hq57 : (x6_3 : Int) < (x3_3.length : Int) := (by have h_ : (x6_3 : Int) < ((x3_3.length : Int) : Int) := dT; first | exact h_ | (have e_ := (Kd.S_reads' HO_3.out).1; omega) | simpa only [List.length_set, List.length_set] using h_)
                            obtain ⟨oki57, ce57, hcl57, hM57, hcc57, hok57, hbk57⟩ := Kd.S_borrow HO_3.out [] (x6_3 : Int) (dT) hq57
                            obtain ⟨ve57_0, rfl, ge57_0⟩ := hM57
                            have hv57 := hcc57 0 _ rfl
                            rw [Nat.add_zero, show ((Kd.slice 3 (Kd.int .i64))).sz = 1 from rfl, Nat.mul_one] at hv57
                            replace hv57 := Option.some.inj (hv57.symm.trans HX118_0.out)
                            subst hv57
                            clear hcc57 hcl57
                            replace ge57_0 := (show Kd.R (Kd.int .i64) 3 _ _ _ _ (rd_L1 x3_3 x6_3) from ge57_0)
                            have HP57 := Kd.R_putg ge57_0 (x5_2 : Int) (wrap64 (Int.tdiv x7_6 (wrap64 (2 * (wrap64 (x5_2 + 1))))))
                            rw [← Ny119.out] at HP57
                            have HS57 := hbk57 HP57.2 (fun k_ e_ => by injection e_ with e_; subst e_; exact ge57_0.1 _ rfl) (x' := y119) (Kd.M_row HP57.1)
                            rw [← Ny121.out] at HS57
                            have HQ57 := Aside0.mk HS57
                            clear HP57 HS57 hbk57 hok57
                            refine start_ (n := 12) (S := fun w' => w'.cell? (ad110.add (x6_3).toNat) = some (.slice (some ⟨go55, 0, none⟩) (rd_L1 x3_3 x6_3).length c118_0)) (ds := [11]) #[false, false, false, false, false, false, false, false, false, false, false, false] (by kernel_rfl) rfl rfl (hx118_0) (fun hHeld => ?_); refine with_tabW spec_l3Table.tab23 spec_l3Table.bits23 (fun HT_ HW_ => ?_)
                            generalize wr.drew = w56 at HO_3 HR114_0 HB GG55 HL118_0 HQ57 HR118_0 HX118_0 hf55_0 hx118_0 hx55_0 hHeld ⊢
                            refine pure_ (i := 0) (N := some 120) (v := ?_) (a' := ?_) #[true, false, false, false, false, false, false, false, false, false, false, false] rfl rfl (any_of HT_.out (by kernel_rfl)) (fun _ _ _ h => h) (Or.inl ⟨by rfl, ?_⟩) ?_ ?_
                            rotate_left
                            ·intro w'
                             go_simp
                             with_reducible rfl
                            rotate_left
                            ·simp only [Act.put, List.setIfInBounds_toArray, List.set_cons_zero, List.set_cons_succ, i64_w, i32_w]
                             rfl
                            refine pure_ (i := 1) (N := some 121) (v := ?_) (a' := ?_) #[true, true, false, false, false, false, false, false, false, false, false, false] rfl rfl (any_of HT_.out (by kernel_rfl)) (fun _ _ _ h => h) (Or.inl ⟨by rfl, ?_⟩) ?_ ?_
                            rotate_left
                            ·intro w'
                             go_simp
                             with_reducible rfl
                            rotate_left
                            ·simp only [Act.put, List.setIfInBounds_toArray, List.set_cons_zero, List.set_cons_succ, i64_w, i32_w]
                             rfl
                            refine pure_ (i := 2) (N := some 122) (v := ?_) (a' := ?_) #[true, true, true, false, false, false, false, false, false, false, false, false] rfl rfl (any_of HT_.out (by kernel_rfl)) (fun _ _ _ h => h) (Or.inl ⟨by rfl, ?_⟩) ?_ ?_
                            rotate_left
                            ·intro w'
                             go_simp
                             with_reducible rfl
                            rotate_left
                            ·simp only [Act.put, List.setIfInBounds_toArray, List.set_cons_zero, List.set_cons_succ, i64_w, i32_w]
                             rfl
                            refine pure_ (i := 4) (N := some 124) (v := ?_) (a' := ?_) #[true, true, true, false, true, false, false, false, false, false, false, false] rfl rfl (any_of HT_.out (by kernel_rfl)) (fun _ _ _ h => h) (Or.inl ⟨by rfl, ?_⟩) ?_ ?_
                            rotate_left
                            ·intro w'
                             go_simp
                             with_reducible rfl
                            rotate_left
                            ·simp only [Act.put, List.setIfInBounds_toArray, List.set_cons_zero, List.set_cons_succ, i64_w, i32_w]
                             rfl
                            refine pure_ (i := 5) (N := some 125) (v := ?_) (a' := ?_) #[true, true, true, false, true, true, false, false, false, false, false, false] rfl rfl (any_of HT_.out (by kernel_rfl)) (fun _ _ _ h => h) (Or.inl ⟨by rfl, ?_⟩) ?_ ?_
                            rotate_left
                            ·intro w'
                             go_simp
                             with_reducible rfl
                            rotate_left
                            ·simp only [Act.put, List.setIfInBounds_toArray, List.set_cons_zero, List.set_cons_succ, i64_w, i32_w]
                             rfl
                            refine pure_ (i := 6) (N := some 126) (v := ?_) (a' := ?_) #[true, true, true, false, true, true, true, false, false, false, false, false] rfl rfl (any_of HT_.out (by kernel_rfl)) (fun _ _ _ h => h) (Or.inl ⟨by rfl, ?_⟩) ?_ ?_
                            rotate_left
                            ·intro w'
                             go_simp
                             with_reducible rfl
                            rotate_left
                            ·simp only [Act.put, List.setIfInBounds_toArray, List.set_cons_zero, List.set_cons_succ, i64_w, i32_w]
                             rfl
                            refine pure_ (i := 7) (N := some 127) (v := ?_) (a' := ?_) #[true, true, true, false, true, true, true, true, false, false, false, false] rfl rfl (any_of HT_.out (by kernel_rfl)) (fun _ _ _ h => h) (Or.inl ⟨by rfl, ?_⟩) ?_ ?_
                            rotate_left
                            ·intro w'
                             go_simp
                             with_reducible rfl
                            rotate_left
                            ·simp only [Act.put, List.setIfInBounds_toArray, List.set_cons_zero, List.set_cons_succ, i64_w, i32_w]
                             rfl
                            refine pure_ (i := 8) (N := some 128) (v := ?_) (a' := ?_) #[true, true, true, false, true, true, true, true, true, false, false, false] rfl rfl (any_of HT_.out (by kernel_rfl)) (fun _ _ _ h => h) (Or.inl ⟨by rfl, ?_⟩) ?_ ?_
                            rotate_left
                            ·intro w'
                             go_simp
                             with_reducible rfl
                            rotate_left
                            ·simp only [Act.put, List.setIfInBounds_toArray, List.set_cons_zero, List.set_cons_succ, i64_w, i32_w]
                             rfl
                            refine pure_ (i := 9) (N := some 129) (v := ?_) (a' := ?_) #[true, true, true, false, true, true, true, true, true, true, false, false] rfl rfl (any_of HT_.out (by kernel_rfl)) (fun _ _ _ h => h) (Or.inl ⟨by rfl, ?_⟩) ?_ ?_
                            rotate_left
                            ·intro w'
                             go_simp
                             with_reducible rfl
                            rotate_left
                            ·simp only [Act.put, List.setIfInBounds_toArray, List.set_cons_zero, List.set_cons_succ, i64_w, i32_w]
                             rfl
                            refine take_ (i := 3) (N := some 123) (v := ?_) (a' := ?_) #[true, true, true, true, true, true, true, true, true, true, false, false] rfl rfl (take_ofW HT_.out HW_.out (by kernel_rfl)) (fun _ _ _ h => h) (Or.inl ⟨by rfl, ?_⟩) hHeld ?_ ?_
                            rotate_left
                            ·intro w' s0
                             go_simp
                             with_reducible rfl
                            rotate_left
                            ·simp only [Act.put, List.setIfInBounds_toArray, List.set_cons_zero, List.set_cons_succ, i64_w, i32_w]
                             rfl
                            refine pure_ (i := 10) (N := some 130) (v := ?_) (a' := ?_) #[true, true, true, true, true, true, true, true, true, true, true, false] rfl rfl (any_of HT_.out (by kernel_rfl)) (fun _ _ _ h => h) (Or.inl ⟨by rfl, ?_⟩) ?_ ?_
                            rotate_left
                            ·intro w'
                             go_simp
                             with_reducible rfl
                            rotate_left
                            ·simp only [Act.put, List.setIfInBounds_toArray, List.set_cons_zero, List.set_cons_succ, i64_w, i32_w]
                             rfl
                            refine last_ (i := 11) (N := none) #[true, true, true, true, true, true, true, true, true, true, true, true] rfl rfl (one_of HT_.out (by kernel_rfl)) (by decide) (fun K hK => ?_)
                            refine skip_ (w1 := ?_) (by rfl) rfl ?_ ?_
                            rotate_left
                            ·go_simp
                             rfl
                            refine hK.out _ _ ?_
                            clear hK K
                            refine done_ (done_of HT_.out (by kernel_rfl)) ?_
                            try go_wp2
                            (try simp only [← hl3_3])
                            go_roundg k6
                            case measure => have := HK1.out; have := HK2.out; have := HK3.out; have := HJ25.out; have := HJ27.out; have := HK6.out; omega
                            case rel => exact ⟨(y121), (wrap64 (x6_3 + 1)), eS, H', ⟨by have := HK1.out; have := HK2.out; have := HK3.out; have := HJ25.out; have := HJ27.out; have := HK6.out; omega⟩, ⟨by (try simp only [hl3_2]); (try simp only [hl3_3]); (with_reducible repeat (first | apply Kd.S_alloc | apply Kd.S_drewN | apply Kd.S_drew)); exact HQ57.out⟩, ⟨bP HB⟩⟩
                           ·rw [if_neg c54] at H
                            exact absurd H (by simp)
                          ·rw [if_neg c53] at H
                           exact absurd H (by simp)
                        ·rw [if_neg c51] at H
                         exact absurd H (by simp)
                       ·rw [if_neg c50] at H
                        exact absurd H (by simp)
               ·rw [if_neg c25] at H
                exact absurd H (by simp)
              ·rw [if_neg c24] at H
               exact absurd H (by simp)
             ·rw [if_neg c22] at H
              exact absurd H (by simp)
            ·rw [if_neg c21] at H
             exact absurd H (by simp)
           ·rw [if_neg c20] at H
            have c20b0 : decide (x6_3 ≤ 5) = false := decide_eq_false c20
            clear c20
            have H' := Aside0.mk H
            clear H
            go_wp2
            (try simp only [← hl3_2, ← hl3_3])
            go_roundg k3
            case measure => have := HK1.out; have := HK2.out; have := HK3.out; omega
            case rel => exact ⟨(x3_3), (wrap64 (x5_2 + 1)), eS, H', ⟨by have := HK1.out; have := HK2.out; have := HK3.out; omega⟩, ⟨by (try simp only [hl3_2]); (try simp only [hl3_3]); (with_reducible repeat (first | apply Kd.S_alloc | apply Kd.S_drewN | apply Kd.S_drew)); exact HO_3.out⟩, ⟨bP HB⟩⟩
        ·rw [if_neg c19] at H
         have c19b0 : decide (x5_2 ≤ a0) = false := decide_eq_false c19
         clear c19
         obtain rfl := Option.some.inj H
         go_wp2
         go_ret
         exact ⟨_, eR, by (with_reducible repeat (first | apply Kd.S_alloc | apply Kd.S_drewN | apply Kd.S_drew)); exact HO_3.out, bP HB⟩
     ·rw [if_neg c14] at H
      exact absurd H (by simp)
    ·rw [if_neg c13] at H
     exact absurd H (by simp)

end Go.Proofs.Ytcclnblabaoofaa.F
