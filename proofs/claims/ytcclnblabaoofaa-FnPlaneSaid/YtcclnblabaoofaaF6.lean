/- Contracts: what these Go functions return. -/
import Derived.Test.YtcclnblabaoofaaF0
namespace Go.Proofs.Ytcclnblabaoofaa.F
open Go.RowKit Go.Proofs.YtcclnblabaoofaaW.PrintWords Go.Proofs.YtcclnblabaoofaaW.PrintLast Go.Proofs.YtcclnblabaoofaaW.PrintMore
attribute [local go_sem] max2_int min2_int max_two min_two max_three min_three max_four min_four
set_option linter.unusedVariables false
set_option linter.unusedSimpArgs false

/-! ### spec_l3Faces: function 28 -/
mutual
def spec_l3Faces.l0 : Nat → Int → List (List Int) → Int → Option ((List (List Int)))
 | 0, _, _, _ => none
 | k + 1, x0, x3, x4 => if x4 ≤ x0 then (if 0 ≤ (wrap64 ((wrap64 (2 * x0)) + 1)) then (if (wrap64 ((wrap64 (2 * x0)) + 1) : Int).toNat ≤ 35184372088832 then (if x3.length < 5864062014805 then (spec_l3Faces.l0 k x0 (x3 ++ [(List.replicate (wrap64 ((wrap64 (2 * x0)) + 1) : Int).toNat 0)]) (wrap64 (x4 + 1))) else (none)) else (none)) else (none)) else (if 0 < (x3.length : Int) then (if 0 < ((rd_L1 x3 0).length : Int) then (spec_l3Faces.l1 k x0 (x3.set (0 : Int).toNat ((rd_L1 x3 0).set (0 : Int).toNat 1)) 1) else (none)) else (none))
def spec_l3Faces.l1 : Nat → Int → List (List Int) → Int → Option ((List (List Int)))
 | 0, _, _, _ => none
 | k + 1, x0, x3, x5 => if x5 ≤ x0 then (spec_l3Faces.l2 k x0 x3 x5 1) else (some x3)
def spec_l3Faces.l2 : Nat → Int → List (List Int) → Int → Int → Option ((List (List Int)))
 | 0, _, _, _, _ => none
 | k + 1, x0, x3, x5, x6 => if x6 ≤ (wrap64 (2 * x0)) then (spec_l3Faces.l3 k x0 x3 x5 x6 0 0) else (spec_l3Faces.l1 k x0 x3 (wrap64 (x5 + 1)))
def spec_l3Faces.l3 : Nat → Int → List (List Int) → Int → Int → Int → Int → Option ((List (List Int)))
 | 0, _, _, _, _, _, _ => none
 | k + 1, x0, x3, x5, x6, x7, x8 => if x8 < x5 then (spec_l3Faces.l4 k x0 x3 x5 x6 x7 x8 0) else (spec_l3Faces.l5 k x0 x3 x5 x6 x7 (wrap64 (x6 - 1)))
def spec_l3Faces.l4 : Nat → Int → List (List Int) → Int → Int → Int → Int → Int → Option ((List (List Int)))
 | 0, _, _, _, _, _, _, _ => none
 | k + 1, x0, x3, x5, x6, x7, x8, x9 => if x9 ≤ (wrap64 (x6 - 2)) then (if 0 ≤ x8 then (if x8 < (x3.length : Int) then (if 0 ≤ x9 then (if x9 < ((rd_L1 x3 x8).length : Int) then (if 0 ≤ (wrap64 ((wrap64 (x5 - 1)) - x8)) then (if (wrap64 ((wrap64 (x5 - 1)) - x8)) < (x3.length : Int) then (if 0 ≤ (wrap64 ((wrap64 (x6 - 2)) - x9)) then (if (wrap64 ((wrap64 (x6 - 2)) - x9)) < ((rd_L1 x3 (wrap64 ((wrap64 (x5 - 1)) - x8))).length : Int) then (spec_l3Faces.l4 k x0 x3 x5 x6 (wrap64 (x7 + (wrap64 ((rd (rd_L1 x3 x8) x9) * (rd (rd_L1 x3 (wrap64 ((wrap64 (x5 - 1)) - x8))) (wrap64 ((wrap64 (x6 - 2)) - x9))))))) x8 (wrap64 (x9 + 1))) else (none)) else (none)) else (none)) else (none)) else (none)) else (none)) else (none)) else (none)) else (spec_l3Faces.l3 k x0 x3 x5 x6 x7 (wrap64 (x8 + 1)))
def spec_l3Faces.l5 : Nat → Int → List (List Int) → Int → Int → Int → Int → Option ((List (List Int)))
 | 0, _, _, _, _, _, _ => none
 | k + 1, x0, x3, x5, x6, x7, x10 => if x10 ≤ (wrap64 (2 * x0)) then (if 0 ≤ (wrap64 (x5 - 1)) then (if (wrap64 (x5 - 1)) < (x3.length : Int) then (if 0 ≤ x10 then (if x10 < ((rd_L1 x3 (wrap64 (x5 - 1))).length : Int) then (spec_l3Faces.l5 k x0 x3 x5 x6 (wrap64 (x7 + (rd (rd_L1 x3 (wrap64 (x5 - 1))) x10))) (wrap64 (x10 + 1))) else (none)) else (none)) else (none)) else (none)) else (if 0 ≤ x5 then (if x5 < (x3.length : Int) then (if 0 ≤ x6 then (if x6 < ((rd_L1 x3 x5).length : Int) then (spec_l3Faces.l2 k x0 (x3.set (x5 : Int).toNat ((rd_L1 x3 x5).set (x6 : Int).toNat x7)) x5 (wrap64 (x6 + 1))) else (none)) else (none)) else (none)) else (none))
end
def spec_l3Faces.f (k : Nat) (a0 : Int) : Option ((List (List Int))) := spec_l3Faces.l0 k a0 (([] : List (List Int))) 0
theorem spec_l3Faces.mono_l : ∀ k, (∀ y0 y1 y2, LeO (spec_l3Faces.l0 k y0 y1 y2) (spec_l3Faces.l0 (k + 1) y0 y1 y2)) ∧ (∀ y0 y1 y2, LeO (spec_l3Faces.l1 k y0 y1 y2) (spec_l3Faces.l1 (k + 1) y0 y1 y2)) ∧ (∀ y0 y1 y2 y3, LeO (spec_l3Faces.l2 k y0 y1 y2 y3) (spec_l3Faces.l2 (k + 1) y0 y1 y2 y3)) ∧ (∀ y0 y1 y2 y3 y4 y5, LeO (spec_l3Faces.l3 k y0 y1 y2 y3 y4 y5) (spec_l3Faces.l3 (k + 1) y0 y1 y2 y3 y4 y5)) ∧ (∀ y0 y1 y2 y3 y4 y5 y6, LeO (spec_l3Faces.l4 k y0 y1 y2 y3 y4 y5 y6) (spec_l3Faces.l4 (k + 1) y0 y1 y2 y3 y4 y5 y6)) ∧ (∀ y0 y1 y2 y3 y4 y5, LeO (spec_l3Faces.l5 k y0 y1 y2 y3 y4 y5) (spec_l3Faces.l5 (k + 1) y0 y1 y2 y3 y4 y5))
 | 0 => ⟨fun _ _ _ r h => by simp [spec_l3Faces.l0] at h, fun _ _ _ r h => by simp [spec_l3Faces.l1] at h, fun _ _ _ _ r h => by simp [spec_l3Faces.l2] at h, fun _ _ _ _ _ _ r h => by simp [spec_l3Faces.l3] at h, fun _ _ _ _ _ _ _ r h => by simp [spec_l3Faces.l4] at h, fun _ _ _ _ _ _ r h => by simp [spec_l3Faces.l5] at h⟩
 | k + 1 => by
  obtain ⟨ih0, ih1, ih2, ih3, ih4, ih5⟩ := spec_l3Faces.mono_l k
  refine ⟨?_, ?_, ?_, ?_, ?_, ?_⟩
  ·intro y0 y1 y2
   unfold spec_l3Faces.l0
   repeat' first
   | (with_reducible exact ih0 _ _ _)
   | (with_reducible exact ih1 _ _ _)
   | (with_reducible exact ih2 _ _ _ _)
   | (with_reducible exact ih3 _ _ _ _ _ _)
   | (with_reducible exact ih4 _ _ _ _ _ _ _)
   | (with_reducible exact ih5 _ _ _ _ _ _)
   | (with_reducible exact LeO.refl _)
   | (with_reducible exact LeO.none _)
   | (with_reducible refine LeO.ite ?_ ?_)
   | (with_reducible refine LeO.bind ?_ (fun _ => ?_))
   | exact ih0 _ _ _
   | exact ih1 _ _ _
   | exact ih2 _ _ _ _
   | exact ih3 _ _ _ _ _ _
   | exact ih4 _ _ _ _ _ _ _
   | exact ih5 _ _ _ _ _ _
   | exact LeO.none _
   | refine LeO.ite ?_ ?_
   | refine LeO.bind ?_ (fun _ => ?_)
  ·intro y0 y1 y2
   unfold spec_l3Faces.l1
   repeat' first
   | (with_reducible exact ih0 _ _ _)
   | (with_reducible exact ih1 _ _ _)
   | (with_reducible exact ih2 _ _ _ _)
   | (with_reducible exact ih3 _ _ _ _ _ _)
   | (with_reducible exact ih4 _ _ _ _ _ _ _)
   | (with_reducible exact ih5 _ _ _ _ _ _)
   | (with_reducible exact LeO.refl _)
   | (with_reducible exact LeO.none _)
   | (with_reducible refine LeO.ite ?_ ?_)
   | (with_reducible refine LeO.bind ?_ (fun _ => ?_))
   | exact ih0 _ _ _
   | exact ih1 _ _ _
   | exact ih2 _ _ _ _
   | exact ih3 _ _ _ _ _ _
   | exact ih4 _ _ _ _ _ _ _
   | exact ih5 _ _ _ _ _ _
   | exact LeO.none _
   | refine LeO.ite ?_ ?_
   | refine LeO.bind ?_ (fun _ => ?_)
  ·intro y0 y1 y2 y3
   unfold spec_l3Faces.l2
   repeat' first
   | (with_reducible exact ih0 _ _ _)
   | (with_reducible exact ih1 _ _ _)
   | (with_reducible exact ih2 _ _ _ _)
   | (with_reducible exact ih3 _ _ _ _ _ _)
   | (with_reducible exact ih4 _ _ _ _ _ _ _)
   | (with_reducible exact ih5 _ _ _ _ _ _)
   | (with_reducible exact LeO.refl _)
   | (with_reducible exact LeO.none _)
   | (with_reducible refine LeO.ite ?_ ?_)
   | (with_reducible refine LeO.bind ?_ (fun _ => ?_))
   | exact ih0 _ _ _
   | exact ih1 _ _ _
   | exact ih2 _ _ _ _
   | exact ih3 _ _ _ _ _ _
   | exact ih4 _ _ _ _ _ _ _
   | exact ih5 _ _ _ _ _ _
   | exact LeO.none _
   | refine LeO.ite ?_ ?_
   | refine LeO.bind ?_ (fun _ => ?_)
  ·intro y0 y1 y2 y3 y4 y5
   unfold spec_l3Faces.l3
   repeat' first
   | (with_reducible exact ih0 _ _ _)
   | (with_reducible exact ih1 _ _ _)
   | (with_reducible exact ih2 _ _ _ _)
   | (with_reducible exact ih3 _ _ _ _ _ _)
   | (with_reducible exact ih4 _ _ _ _ _ _ _)
   | (with_reducible exact ih5 _ _ _ _ _ _)
   | (with_reducible exact LeO.refl _)
   | (with_reducible exact LeO.none _)
   | (with_reducible refine LeO.ite ?_ ?_)
   | (with_reducible refine LeO.bind ?_ (fun _ => ?_))
   | exact ih0 _ _ _
   | exact ih1 _ _ _
   | exact ih2 _ _ _ _
   | exact ih3 _ _ _ _ _ _
   | exact ih4 _ _ _ _ _ _ _
   | exact ih5 _ _ _ _ _ _
   | exact LeO.none _
   | refine LeO.ite ?_ ?_
   | refine LeO.bind ?_ (fun _ => ?_)
  ·intro y0 y1 y2 y3 y4 y5 y6
   unfold spec_l3Faces.l4
   repeat' first
   | (with_reducible exact ih0 _ _ _)
   | (with_reducible exact ih1 _ _ _)
   | (with_reducible exact ih2 _ _ _ _)
   | (with_reducible exact ih3 _ _ _ _ _ _)
   | (with_reducible exact ih4 _ _ _ _ _ _ _)
   | (with_reducible exact ih5 _ _ _ _ _ _)
   | (with_reducible exact LeO.refl _)
   | (with_reducible exact LeO.none _)
   | (with_reducible refine LeO.ite ?_ ?_)
   | (with_reducible refine LeO.bind ?_ (fun _ => ?_))
   | exact ih0 _ _ _
   | exact ih1 _ _ _
   | exact ih2 _ _ _ _
   | exact ih3 _ _ _ _ _ _
   | exact ih4 _ _ _ _ _ _ _
   | exact ih5 _ _ _ _ _ _
   | exact LeO.none _
   | refine LeO.ite ?_ ?_
   | refine LeO.bind ?_ (fun _ => ?_)
  ·intro y0 y1 y2 y3 y4 y5
   unfold spec_l3Faces.l5
   repeat' first
   | (with_reducible exact ih0 _ _ _)
   | (with_reducible exact ih1 _ _ _)
   | (with_reducible exact ih2 _ _ _ _)
   | (with_reducible exact ih3 _ _ _ _ _ _)
   | (with_reducible exact ih4 _ _ _ _ _ _ _)
   | (with_reducible exact ih5 _ _ _ _ _ _)
   | (with_reducible exact LeO.refl _)
   | (with_reducible exact LeO.none _)
   | (with_reducible refine LeO.ite ?_ ?_)
   | (with_reducible refine LeO.bind ?_ (fun _ => ?_))
   | exact ih0 _ _ _
   | exact ih1 _ _ _
   | exact ih2 _ _ _ _
   | exact ih3 _ _ _ _ _ _
   | exact ih4 _ _ _ _ _ _ _
   | exact ih5 _ _ _ _ _ _
   | exact LeO.none _
   | refine LeO.ite ?_ ?_
   | refine LeO.bind ?_ (fun _ => ?_)
theorem spec_l3Faces.mono : ∀ a0 k, LeO (spec_l3Faces.f k a0) (spec_l3Faces.f (k + 1) a0) := by
 intro a0 k
 obtain ⟨ih0, ih1, ih2, ih3, ih4, ih5⟩ := spec_l3Faces.mono_l k
 unfold spec_l3Faces.f
 repeat' first
  | (with_reducible exact ih0 _ _ _)
  | (with_reducible exact ih1 _ _ _)
  | (with_reducible exact ih2 _ _ _ _)
  | (with_reducible exact ih3 _ _ _ _ _ _)
  | (with_reducible exact ih4 _ _ _ _ _ _ _)
  | (with_reducible exact ih5 _ _ _ _ _ _)
  | (with_reducible exact LeO.refl _)
  | (with_reducible exact LeO.none _)
  | (with_reducible refine LeO.ite ?_ ?_)
  | (with_reducible refine LeO.bind ?_ (fun _ => ?_))
  | exact ih0 _ _ _
  | exact ih1 _ _ _
  | exact ih2 _ _ _ _
  | exact ih3 _ _ _ _ _ _
  | exact ih4 _ _ _ _ _ _ _
  | exact ih5 _ _ _ _ _ _
  | exact LeO.none _
  | refine LeO.ite ?_ ?_
  | refine LeO.bind ?_ (fun _ => ?_)
set_option maxHeartbeats 8000000 in
set_option maxRecDepth 100000 in
theorem spec_l3Faces.calls (k : Nat) (a0 : Int) (r : List (List Int)) (w : World) (h : spec_l3Faces.f k a0 = some r) :
 Calls Try.prog 28 #[.int .i64 a0] w fun e w' => ∃ v0_ : Value, e = .returned (v0_) ∧ Kd.S (Kd.slice 3 (Kd.int .i64)) 33 w' w.heap.size (fun _ => True) v0_ r ∧ Below w.heap.size w w' := by
 have HB := Aside0.mk (Below.refl w.heap.size w)
 have H : (spec_l3Faces.l0 k a0 (([] : List (List Int))) 0) = some r := h
 clear h
 obtain ⟨y136, hy136⟩ : ∃ y_ : List (List Int), y_ = (([] : List (List Int))) := ⟨_, rfl⟩
 replace H : (spec_l3Faces.l0 k a0 y136 0) = some r := by first | (rw [hy136]; with_reducible exact H) | (have H2_ := (Option.bind_some _ _).symm.trans H; rw [hy136]; with_reducible exact H2_) | (have H2_ := (Option.bind_some _ _).symm.trans H; with_reducible exact H2_) | with_reducible exact H | (rw [hy136]; exact H) | exact H
 have Ny136 := Aside0.mk hy136
 clear hy136
 have H' := Aside0.mk H
 clear H
 go_enter Try.func28, Try.ntmps28
 go_wp2_with (first | ((with_reducible refine gate_dst (N := 11) rfl ?_); refine Kd.S_lit (Kd.slice 3 (Kd.int .i64)) _ 33 ?hg (N := 11) ?hd (xs := ([] : List (List Int))) (inner := []) (ok := fun _ => True) (okp := fun _ => True) ?hr ?hp (fun _ hk => hk) trivial (Below.refl _ _) (Nat.le_refl _) (by simp) ?_; (case hd => rfl); (case hg => rfl); (case hr => first | (go_simp; done) | (go_simp; rfl)); (case hp => exact (Reps.none _ _)); intro v137 w2 ho3 hb hg_ hnew_; clear hg_ hnew_; (first | rw [← Ny136.out] at ho3 | (simp only [Int.reduceToNat] at ho3; rw [← Ny136.out] at ho3)); have HO138 := Aside0.mk (Kd.S_lower ho3 (below_size (bP HB))); replace HB := bS HB hb; clear hb ho3))
 repeat (go_quiet (first | ((with_reducible refine gate_dst (N := 11) rfl ?_); refine Kd.S_lit (Kd.slice 3 (Kd.int .i64)) _ 33 ?hg (N := 11) ?hd (xs := ([] : List (List Int))) (inner := []) (ok := fun _ => True) (okp := fun _ => True) ?hr ?hp (fun _ hk => hk) trivial (Below.refl _ _) (Nat.le_refl _) (by simp) ?_; (case hd => rfl); (case hg => rfl); (case hr => first | (go_simp; done) | (go_simp; rfl)); (case hp => exact (Reps.none _ _)); intro v137 w2 ho3 hb hg_ hnew_; clear hg_ hnew_; (first | rw [← Ny136.out] at ho3 | (simp only [Int.reduceToNat] at ho3; rw [← Ny136.out] at ho3)); have HO138 := Aside0.mk (Kd.S_lower ho3 (below_size (bP HB))); replace HB := bS HB hb; clear hb ho3)); try go_wp2_with (first | ((with_reducible refine gate_dst (N := 11) rfl ?_); refine Kd.S_lit (Kd.slice 3 (Kd.int .i64)) _ 33 ?hg (N := 11) ?hd (xs := ([] : List (List Int))) (inner := []) (ok := fun _ => True) (okp := fun _ => True) ?hr ?hp (fun _ hk => hk) trivial (Below.refl _ _) (Nat.le_refl _) (by simp) ?_; (case hd => rfl); (case hg => rfl); (case hr => first | (go_simp; done) | (go_simp; rfl)); (case hp => exact (Reps.none _ _)); intro v137 w2 ho3 hb hg_ hnew_; clear hg_ hnew_; (first | rw [← Ny136.out] at ho3 | (simp only [Int.reduceToNat] at ho3; rw [← Ny136.out] at ho3)); have HO138 := Aside0.mk (Kd.S_lower ho3 (below_size (bP HB))); replace HB := bS HB hb; clear hb ho3)))
 go_loopg [3, 4] k (fun kq v3 v4 w' => ∃ (x3_1 : List (List Int)) (x4_1 : Int), v4 = .int .i64 x4_1 ∧ Aside0 (spec_l3Faces.l0 kq a0 x3_1 x4_1 = some r) ∧ Aside0 (kq ≤ k) ∧ Aside0 (Kd.S (Kd.slice 3 (Kd.int .i64)) 33 w' w.heap.size (fun _ => True) v3 x3_1) ∧ Aside0 (Below w.heap.size w w'))
 case atStart => exact ⟨(y136), (0), eS, H', ⟨Nat.le_refl _⟩, ⟨by (with_reducible repeat (first | apply Kd.S_alloc | apply Kd.S_drewN | apply Kd.S_drew)); exact HO138.out⟩, ⟨bP HB⟩⟩
 case round =>
  clear H'
  try clear c2
  try clear p2
  obtain ⟨x3_1, x4_1, rfl, HA, HK1, HO_3, HB⟩ := hrel
  cases gk with
  | zero => exact absurd HA.out (by simp [spec_l3Faces.l0])
  | succ k1 =>
   have H := HA.out
   clear HA
   simp only [spec_l3Faces.l0] at H
   by_cases c4 : x4_1 ≤ a0
   ·rw [if_pos c4] at H
    have c4b0 : decide (x4_1 ≤ a0) = true := decide_eq_true c4
    clear c4
    obtain ⟨ji5, hji5⟩ : ∃ j_ : Int, (wrap64 ((wrap64 (2 * a0)) + 1)) = j_ := ⟨_, rfl⟩
    replace H : (if 0 ≤ (ji5) then (if (ji5 : Int).toNat ≤ 35184372088832 then (if x3_1.length < 5864062014805 then (spec_l3Faces.l0 k1 a0 (x3_1 ++ [(List.replicate (ji5 : Int).toNat 0)]) (wrap64 (x4_1 + 1))) else (none)) else (none)) else (none)) = some r := by first | (rw [hji5] at H; exact H) | (simp only [hji5] at H ⊢; exact H)
    have hji5w : (IntKind.i64.wrap ((wrap64 (2 * a0)) + 1)) = ji5 := (i64_w _).trans hji5
    by_cases c6 : 0 ≤ (ji5)
    ·rw [if_pos c6] at H
     have c6b0 := eq_true c6
     have c6b1 : decide (0 ≤ (ji5)) = true := decide_eq_true c6
     clear c6
     by_cases c7 : (ji5 : Int).toNat ≤ 35184372088832
     ·rw [if_pos c7] at H
      have c7b0 := eq_true c7
      have c7b1 : decide ((ji5 : Int).toNat ≤ 35184372088832) = true := decide_eq_true c7
      clear c7
      obtain ⟨y139, hy139⟩ : ∃ y_ : List Int, y_ = (List.replicate (ji5 : Int).toNat 0) := ⟨_, rfl⟩
      replace H : (if x3_1.length < 5864062014805 then (spec_l3Faces.l0 k1 a0 (x3_1 ++ [y139]) (wrap64 (x4_1 + 1))) else (none)) = some r := by first | (rw [hy139]; with_reducible exact H) | (have H2_ := (Option.bind_some _ _).symm.trans H; rw [hy139]; with_reducible exact H2_) | (have H2_ := (Option.bind_some _ _).symm.trans H; with_reducible exact H2_) | with_reducible exact H | (rw [hy139]; exact H) | exact H
      have Ny139 := Aside0.mk hy139
      clear hy139
      by_cases c8 : x3_1.length < 5864062014805
      ·rw [if_pos c8] at H
       have LMc8 := Aside0.mk c8
       clear c8
       obtain ⟨y142, hy142⟩ : ∃ y_ : List (List Int), y_ = (x3_1 ++ [y139]) := ⟨_, rfl⟩
       replace H : (spec_l3Faces.l0 k1 a0 y142 (wrap64 (x4_1 + 1))) = some r := by first | (rw [hy142]; with_reducible exact H) | (have H2_ := (Option.bind_some _ _).symm.trans H; rw [hy142]; with_reducible exact H2_) | (have H2_ := (Option.bind_some _ _).symm.trans H; with_reducible exact H2_) | with_reducible exact H | (rw [hy142]; exact H) | exact H
       have Ny142 := Aside0.mk hy142
       clear hy142
       have H' := Aside0.mk H
       clear H
       go_wp2_with (first | ((with_reducible refine gate_dst (N := 21) rfl ?_); refine Kd.R_make (Kd.int .i64) _ 3 rfl (N := 21) rfl 33 _ _ rfl ji5 rfl rfl Try.underlying33 (.int .i64 0) 8 info3 rfl (by decide) (by omega) 0 (ok := fun _ => True) (okp := fun _ => True) rfl (fun _ hk => hk) trivial (dT) (Nat.le_trans (Nat.mul_le_mul_right _ (dT : ji5.toNat ≤ 35184372088832)) (by omega)) (Below.refl _ _) (Nat.le_refl _) ?_; intro v140 w9 ho10 hb hg_ hnew_; clear hg_ hnew_; (first | rw [← Ny139.out] at ho10 | (simp only [Int.reduceToNat] at ho10; rw [← Ny139.out] at ho10)); replace HO_3 := Aside0.mk (Kd.S_elder' (by (with_reducible repeat (first | apply Kd.S_alloc | apply Kd.S_drewN | apply Kd.S_drew)); exact HO_3.out) (Kd.R_base ho10) hb); have HO141 := rL ho10 HB; replace HB := bS HB hb; clear hb ho10; obtain ⟨Ao12, co12, eo12⟩ := Kd.R_slice HO141.out; subst eo12) | ((with_reducible refine gate_builtin (b := .append) (xs := #[.tmp 17, .tmp 22]) rfl ?_); at_builtin; refine Kd.S_append (Kd.slice 3 (Kd.int .i64)) (w0 := w) w.heap.size rfl (.tmp 17) (.tmp 22) 34 33 (.slice none 0 0) 24 rfl Try.underlying34 info33 rfl (by decide) (by omega) u3 x3_1 y139 [.slice Ao12 y139.length co12] (fun _ => True) (fun k_ => some k_ = (.slice Ao12 y139.length co12 : Value).ownBlock) rfl rfl ?aP (fun k_ hk_ => ((Kd.R_mono (ok' := fun k_ => ((fun _ => True)) k_ ∧ some k_ ≠ (u3 : Value).ownBlock) (Kd.R_apart' (HO141.out) (Kd.S_typed HO_3.out) (by decide)) (fun k_ hk => ⟨trivial, hk.2⟩))).1 k_ hk_.symm) ?aF ?aO ?aB ?aS ?aL ?_; (case aP => exact Kd.M_row (Kd.R_mono (Kd.R_tight rfl (Kd.R_mono (ok' := fun k_ => ((fun _ => True)) k_ ∧ some k_ ≠ (u3 : Value).ownBlock) (Kd.R_apart' (HO141.out) (Kd.S_typed HO_3.out) (by decide)) (fun k_ hk => ⟨trivial, hk.2⟩))) (fun _ h_ => h_))); (case aB => exact (bP HB)); (case aF => exact (fun _ _ => trivial)); (case aO => exact (by (with_reducible repeat (first | apply Kd.S_alloc | apply Kd.S_drewN | apply Kd.S_drew)); exact Kd.S_mono HO_3.out (fun k_ hk => ⟨trivial, fun e_ => hk.2 e_⟩))); (case aS => exact (below_size (bP HB))); (case aL => have := LMc8.out; omega); intro v143 w11 ho hb hg hat; rw [← Ny142.out] at ho; replace HB := Aside0.mk (hb); have HO144 := Aside0.mk (ho); clear HO_3; clear HO141; clear ho hb hg hat))
       repeat (go_quiet (first | ((with_reducible refine gate_dst (N := 21) rfl ?_); refine Kd.R_make (Kd.int .i64) _ 3 rfl (N := 21) rfl 33 _ _ rfl ji5 rfl rfl Try.underlying33 (.int .i64 0) 8 info3 rfl (by decide) (by omega) 0 (ok := fun _ => True) (okp := fun _ => True) rfl (fun _ hk => hk) trivial (dT) (Nat.le_trans (Nat.mul_le_mul_right _ (dT : ji5.toNat ≤ 35184372088832)) (by omega)) (Below.refl _ _) (Nat.le_refl _) ?_; intro v140 w9 ho10 hb hg_ hnew_; clear hg_ hnew_; (first | rw [← Ny139.out] at ho10 | (simp only [Int.reduceToNat] at ho10; rw [← Ny139.out] at ho10)); replace HO_3 := Aside0.mk (Kd.S_elder' (by (with_reducible repeat (first | apply Kd.S_alloc | apply Kd.S_drewN | apply Kd.S_drew)); exact HO_3.out) (Kd.R_base ho10) hb); have HO141 := rL ho10 HB; replace HB := bS HB hb; clear hb ho10; obtain ⟨Ao12, co12, eo12⟩ := Kd.R_slice HO141.out; subst eo12) | ((with_reducible refine gate_builtin (b := .append) (xs := #[.tmp 17, .tmp 22]) rfl ?_); at_builtin; refine Kd.S_append (Kd.slice 3 (Kd.int .i64)) (w0 := w) w.heap.size rfl (.tmp 17) (.tmp 22) 34 33 (.slice none 0 0) 24 rfl Try.underlying34 info33 rfl (by decide) (by omega) u3 x3_1 y139 [.slice Ao12 y139.length co12] (fun _ => True) (fun k_ => some k_ = (.slice Ao12 y139.length co12 : Value).ownBlock) rfl rfl ?aP (fun k_ hk_ => ((Kd.R_mono (ok' := fun k_ => ((fun _ => True)) k_ ∧ some k_ ≠ (u3 : Value).ownBlock) (Kd.R_apart' (HO141.out) (Kd.S_typed HO_3.out) (by decide)) (fun k_ hk => ⟨trivial, hk.2⟩))).1 k_ hk_.symm) ?aF ?aO ?aB ?aS ?aL ?_; (case aP => exact Kd.M_row (Kd.R_mono (Kd.R_tight rfl (Kd.R_mono (ok' := fun k_ => ((fun _ => True)) k_ ∧ some k_ ≠ (u3 : Value).ownBlock) (Kd.R_apart' (HO141.out) (Kd.S_typed HO_3.out) (by decide)) (fun k_ hk => ⟨trivial, hk.2⟩))) (fun _ h_ => h_))); (case aB => exact (bP HB)); (case aF => exact (fun _ _ => trivial)); (case aO => exact (by (with_reducible repeat (first | apply Kd.S_alloc | apply Kd.S_drewN | apply Kd.S_drew)); exact Kd.S_mono HO_3.out (fun k_ hk => ⟨trivial, fun e_ => hk.2 e_⟩))); (case aS => exact (below_size (bP HB))); (case aL => have := LMc8.out; omega); intro v143 w11 ho hb hg hat; rw [← Ny142.out] at ho; replace HB := Aside0.mk (hb); have HO144 := Aside0.mk (ho); clear HO_3; clear HO141; clear ho hb hg hat)); try go_wp2_with (first | ((with_reducible refine gate_dst (N := 21) rfl ?_); refine Kd.R_make (Kd.int .i64) _ 3 rfl (N := 21) rfl 33 _ _ rfl ji5 rfl rfl Try.underlying33 (.int .i64 0) 8 info3 rfl (by decide) (by omega) 0 (ok := fun _ => True) (okp := fun _ => True) rfl (fun _ hk => hk) trivial (dT) (Nat.le_trans (Nat.mul_le_mul_right _ (dT : ji5.toNat ≤ 35184372088832)) (by omega)) (Below.refl _ _) (Nat.le_refl _) ?_; intro v140 w9 ho10 hb hg_ hnew_; clear hg_ hnew_; (first | rw [← Ny139.out] at ho10 | (simp only [Int.reduceToNat] at ho10; rw [← Ny139.out] at ho10)); replace HO_3 := Aside0.mk (Kd.S_elder' (by (with_reducible repeat (first | apply Kd.S_alloc | apply Kd.S_drewN | apply Kd.S_drew)); exact HO_3.out) (Kd.R_base ho10) hb); have HO141 := rL ho10 HB; replace HB := bS HB hb; clear hb ho10; obtain ⟨Ao12, co12, eo12⟩ := Kd.R_slice HO141.out; subst eo12) | ((with_reducible refine gate_builtin (b := .append) (xs := #[.tmp 17, .tmp 22]) rfl ?_); at_builtin; refine Kd.S_append (Kd.slice 3 (Kd.int .i64)) (w0 := w) w.heap.size rfl (.tmp 17) (.tmp 22) 34 33 (.slice none 0 0) 24 rfl Try.underlying34 info33 rfl (by decide) (by omega) u3 x3_1 y139 [.slice Ao12 y139.length co12] (fun _ => True) (fun k_ => some k_ = (.slice Ao12 y139.length co12 : Value).ownBlock) rfl rfl ?aP (fun k_ hk_ => ((Kd.R_mono (ok' := fun k_ => ((fun _ => True)) k_ ∧ some k_ ≠ (u3 : Value).ownBlock) (Kd.R_apart' (HO141.out) (Kd.S_typed HO_3.out) (by decide)) (fun k_ hk => ⟨trivial, hk.2⟩))).1 k_ hk_.symm) ?aF ?aO ?aB ?aS ?aL ?_; (case aP => exact Kd.M_row (Kd.R_mono (Kd.R_tight rfl (Kd.R_mono (ok' := fun k_ => ((fun _ => True)) k_ ∧ some k_ ≠ (u3 : Value).ownBlock) (Kd.R_apart' (HO141.out) (Kd.S_typed HO_3.out) (by decide)) (fun k_ hk => ⟨trivial, hk.2⟩))) (fun _ h_ => h_))); (case aB => exact (bP HB)); (case aF => exact (fun _ _ => trivial)); (case aO => exact (by (with_reducible repeat (first | apply Kd.S_alloc | apply Kd.S_drewN | apply Kd.S_drew)); exact Kd.S_mono HO_3.out (fun k_ hk => ⟨trivial, fun e_ => hk.2 e_⟩))); (case aS => exact (below_size (bP HB))); (case aL => have := LMc8.out; omega); intro v143 w11 ho hb hg hat; rw [← Ny142.out] at ho; replace HB := Aside0.mk (hb); have HO144 := Aside0.mk (ho); clear HO_3; clear HO141; clear ho hb hg hat)))
       go_roundg k1
       case measure => have := HK1.out; omega
       case rel => exact ⟨(y142), (wrap64 (x4_1 + 1)), eS, H', ⟨by have := HK1.out; omega⟩, ⟨by (with_reducible repeat (first | apply Kd.S_alloc | apply Kd.S_drewN | apply Kd.S_drew)); exact HO144.out⟩, ⟨bP HB⟩⟩
      ·rw [if_neg c8] at H
       exact absurd H (by simp)
     ·rw [if_neg c7] at H
      exact absurd H (by simp)
    ·rw [if_neg c6] at H
     exact absurd H (by simp)
   ·rw [if_neg c4] at H
    have c4b0 : decide (x4_1 ≤ a0) = false := decide_eq_false c4
    clear c4
    by_cases c13 : 0 < (x3_1.length : Int)
    ·rw [if_pos c13] at H
     have c13b0 : decide (0 < (x3_1.length : Int)) = true := decide_eq_true c13
     have c13b1 : decide (0 < x3_1.length) = true := decide_eq_true (by omega)
     clear c13
     by_cases c14 : 0 < ((rd_L1 x3_1 0).length : Int)
     ·rw [if_pos c14] at H
      have c14b0 : decide (0 < ((rd_L1 x3_1 0).length : Int)) = true := decide_eq_true c14
      have c14b1 : decide (0 < (rd_L1 x3_1 0).length) = true := decide_eq_true (by omega)
      clear c14
      obtain ⟨y146, hy146⟩ : ∃ y_ : List Int, y_ = ((rd_L1 x3_1 0).set (0 : Int).toNat 1) := ⟨_, rfl⟩
      replace H : (spec_l3Faces.l1 k1 a0 (x3_1.set (0 : Int).toNat y146) 1) = some r := by first | (rw [hy146]; with_reducible exact H) | (have H2_ := (Option.bind_some _ _).symm.trans H; rw [hy146]; with_reducible exact H2_) | (have H2_ := (Option.bind_some _ _).symm.trans H; with_reducible exact H2_) | with_reducible exact H | (rw [hy146]; exact H) | exact H
      have Ny146 := Aside0.mk hy146
      clear hy146
      obtain ⟨y148, hy148⟩ : ∃ y_ : List (List Int), y_ = (x3_1.set (0 : Int).toNat y146) := ⟨_, rfl⟩
      replace H : (spec_l3Faces.l1 k1 a0 y148 1) = some r := by first | (rw [hy148]; with_reducible exact H) | (have H2_ := (Option.bind_some _ _).symm.trans H; rw [hy148]; with_reducible exact H2_) | (have H2_ := (Option.bind_some _ _).symm.trans H; with_reducible exact H2_) | with_reducible exact H | (rw [hy148]; exact H) | exact H
      have Ny148 := Aside0.mk hy148
      clear hy148
      have H' := Aside0.mk H
      clear H
      obtain ⟨Ao16, co16, eo16⟩ := Kd.S_slice HO_3.out
      subst eo16
      have p145 : 0 ≤ (0 : Int) := (by omega)
      have q145 : 0 < (x3_1.length : Int) := dT
      obtain ⟨ad145, A145_0, c145_0, e145, hx145_0, hl145_0, hi145_0⟩ := at_L1 (Kd.S_reads' HO_3.out).2.2 0 p145 q145
      cases e145
      obtain ⟨ce145, hce145, hMe145, hcc145⟩ := Kd.S_get HO_3.out [] 0 p145 (by first | exact q145 | exact dT | (have e_ := (Kd.S_reads' HO_3.out).1; omega))
      obtain ⟨ve145_0, rfl, ge145_0⟩ := hMe145
      have hv145_0 := hcc145 0 _ rfl
      rw [Nat.add_zero, show ((Kd.slice 3 (Kd.int .i64))).sz = 1 from rfl, Nat.mul_one] at hv145_0
      replace hv145_0 := Option.some.inj (hv145_0.symm.trans hx145_0)
      rw [hv145_0] at ge145_0
      have HL145_0 := Aside0.mk (show Kd.R (Kd.int .i64) 3 _ _ _ _ (rd_L1 x3_1 0) from ge145_0)
      clear hv145_0 ge145_0
      have HX145_0 := Aside0.mk hx145_0
      clear hcc145 hce145
      have qi145 : (0 < x3_1.length) = True := eq_true (by omega)
      (try rw [show ((0 : Int)).toNat = 0 from rfl] at hx145_0)
      (try rw [Addr.add_zero'] at hx145_0)
      have HR145_0 := Aside0.mk hi145_0
      have HC145_0 := Aside0.mk hl145_0
      clear hi145_0 hl145_0
      replace p145 := eq_true p145
      replace q145 := eq_true q145
      have p15 : 0 ≤ (0 : Int) := (by omega)
      have q15 : (0 : Int) < (((rd_L1 x3_1 0).length : Int) : Int) := dT
      have qi15 : (0 < (rd_L1 x3_1 0).length) = True := eq_true (by omega)
      obtain ⟨go15, co15, eo15, gb15, gl15, cl15, HG15⟩ := Kd.R_form HL145_0.out (by omega)
      (first | cases eo15 | (injection eo15 with ea_ en_ ec_; (first | subst ea_ | (injection ea_ with ea_; subst ea_)); subst ec_; clear en_))
      have GB15 := Aside0.mk gb15
      have GG15 := Aside0.mk HG15
      clear gb15 gl15 HG15
      obtain ⟨hx15_0, hf15_0⟩ := Kd.R_celln 0 HL145_0.out (0 : Int) p15 q15
      (try rw [show ((0 : Int)).toNat = 0 from rfl] at hx15_0)
      (try simp only [Nat.reduceMul, Nat.zero_mul, Nat.zero_add, Nat.reduceAdd] at hx15_0)
      (try rw [show ((0 : Int)).toNat = 0 from rfl] at hf15_0)
      (try simp only [Nat.reduceMul, Nat.zero_mul, Nat.zero_add, Nat.reduceAdd] at hf15_0)
      replace p15 := eq_true p15
      replace q15 := eq_true q15
      have hq17 : (0 : Int) < (x3_1.length : Int) := (by have h_ : (0 : Int) < ((x3_1.length : Int) : Int) := dT; first | exact h_ | (have e_ := (Kd.S_reads' HO_3.out).1; omega) | simpa only [List.length_set, List.length_set] using h_)
      obtain ⟨oki17, ce17, hcl17, hM17, hcc17, hok17, hbk17⟩ := Kd.S_borrow HO_3.out [] (0 : Int) (by omega) hq17
      obtain ⟨ve17_0, rfl, ge17_0⟩ := hM17
      have hv17 := hcc17 0 _ rfl
      rw [Nat.add_zero, show ((Kd.slice 3 (Kd.int .i64))).sz = 1 from rfl, Nat.mul_one] at hv17
      replace hv17 := Option.some.inj (hv17.symm.trans HX145_0.out)
      subst hv17
      clear hcc17 hcl17
      replace ge17_0 := (show Kd.R (Kd.int .i64) 3 _ _ _ _ (rd_L1 x3_1 0) from ge17_0)
      have HP17 := Kd.R_putg ge17_0 (0 : Int) 1
      go_wp2_with (first | ((with_reducible refine gate_store (t := 3) (p := 27) rfl ?_); (try (rw [drewN_self wr]; generalize hq_ : World.drewN wr _ = wr; replace HO_3 := Aside0.mk (Kd.S_at hq_ HO_3.out); replace HL159 := Aside0.mk (Kd.R_at hq_ HL159.out); replace HB := Aside0.mk (below_at hq_ HB.out); clear hq_; (try (have hq17 : (0 : Int) < (x3_1.length : Int) := (by have h_ : (0 : Int) < ((x3_1.length : Int) : Int) := dT; first | exact h_ | (have e_ := (Kd.S_reads' HO_3.out).1; omega) | simpa only [List.length_set, List.length_set] using h_))); (try (obtain ⟨oki17, ce17, hcl17, hM17, hcc17, hok17, hbk17⟩ := Kd.S_borrow HO_3.out [] (0 : Int) (by omega) hq17)); (try (obtain ⟨ve17_0, rfl, ge17_0⟩ := hM17)); (try (have hv17 := hcc17 0 _ rfl)); (try (rw [Nat.add_zero, show ((Kd.slice 3 (Kd.int .i64))).sz = 1 from rfl, Nat.mul_one] at hv17)); (try (replace hv17 := Option.some.inj (hv17.symm.trans HX145_0.out))); (try (subst hv17)); (try (clear hcc17 hcl17)); (try (replace ge17_0 := (show Kd.R (Kd.int .i64) 3 _ _ _ _ (rd_L1 x3_1 0) from ge17_0))); (try (have HP17 := Kd.R_putg ge17_0 (0 : Int) 1)))); refine store_event (t := 3) (p := 27) (v := ?vo_w18) (w1 := (wr.setCell ⟨go15, 0, none⟩ (.int .i64 1))) ?hg ?ho ?hn ?hr ?_; (case ho => rfl); (case hg => rfl); (case hn => rfl); (case hr => first | (go_simp; done) | (go_simp; rfl)); intro w18 hw; have hg : wr.grownBy w18 (some go15) := (by rw [hw]; exact HP17.2); have hz_ : Kd.R (Kd.int .i64) 3 w18 w.heap.size oki17 (.slice (some ⟨go15, 0, none⟩) (rd_L1 x3_1 0).length c145_0) y146 := (by rw [hw, Ny146.out]; exact HP17.1); have hp_ : Kd.S (Kd.slice 3 (Kd.int .i64)) 33 w18 w.heap.size (fun _ => True) (.slice (some ad145) x3_1.length co16) y148 := (by rw [Ny148.out]; exact hbk17 hg (fun k_ e_ => by injection e_ with e_; subst e_; exact ge17_0.1 _ rfl) (Kd.M_row hz_)); have hm_ := Kd.R_mono hz_ hok17; clear HP17 hbk17; replace HO_3 := Aside0.mk (hp_); replace HB := Aside0.mk ((by rw [hw]; exact below_set (HB.out) GB15.out : Below w.heap.size w w18)); have HL159 := Aside0.mk (hm_); have HC147 := Aside0.mk ((Kd.R_reads' hm_).2.1); clear HL145_0; clear hg hw hp_ hz_ hm_ hok17))
      repeat (go_quiet (first | ((with_reducible refine gate_store (t := 3) (p := 27) rfl ?_); (try (rw [drewN_self wr]; generalize hq_ : World.drewN wr _ = wr; replace HO_3 := Aside0.mk (Kd.S_at hq_ HO_3.out); replace HL159 := Aside0.mk (Kd.R_at hq_ HL159.out); replace HB := Aside0.mk (below_at hq_ HB.out); clear hq_; (try (have hq17 : (0 : Int) < (x3_1.length : Int) := (by have h_ : (0 : Int) < ((x3_1.length : Int) : Int) := dT; first | exact h_ | (have e_ := (Kd.S_reads' HO_3.out).1; omega) | simpa only [List.length_set, List.length_set] using h_))); (try (obtain ⟨oki17, ce17, hcl17, hM17, hcc17, hok17, hbk17⟩ := Kd.S_borrow HO_3.out [] (0 : Int) (by omega) hq17)); (try (obtain ⟨ve17_0, rfl, ge17_0⟩ := hM17)); (try (have hv17 := hcc17 0 _ rfl)); (try (rw [Nat.add_zero, show ((Kd.slice 3 (Kd.int .i64))).sz = 1 from rfl, Nat.mul_one] at hv17)); (try (replace hv17 := Option.some.inj (hv17.symm.trans HX145_0.out))); (try (subst hv17)); (try (clear hcc17 hcl17)); (try (replace ge17_0 := (show Kd.R (Kd.int .i64) 3 _ _ _ _ (rd_L1 x3_1 0) from ge17_0))); (try (have HP17 := Kd.R_putg ge17_0 (0 : Int) 1)))); refine store_event (t := 3) (p := 27) (v := ?vo_w18) (w1 := (wr.setCell ⟨go15, 0, none⟩ (.int .i64 1))) ?hg ?ho ?hn ?hr ?_; (case ho => rfl); (case hg => rfl); (case hn => rfl); (case hr => first | (go_simp; done) | (go_simp; rfl)); intro w18 hw; have hg : wr.grownBy w18 (some go15) := (by rw [hw]; exact HP17.2); have hz_ : Kd.R (Kd.int .i64) 3 w18 w.heap.size oki17 (.slice (some ⟨go15, 0, none⟩) (rd_L1 x3_1 0).length c145_0) y146 := (by rw [hw, Ny146.out]; exact HP17.1); have hp_ : Kd.S (Kd.slice 3 (Kd.int .i64)) 33 w18 w.heap.size (fun _ => True) (.slice (some ad145) x3_1.length co16) y148 := (by rw [Ny148.out]; exact hbk17 hg (fun k_ e_ => by injection e_ with e_; subst e_; exact ge17_0.1 _ rfl) (Kd.M_row hz_)); have hm_ := Kd.R_mono hz_ hok17; clear HP17 hbk17; replace HO_3 := Aside0.mk (hp_); replace HB := Aside0.mk ((by rw [hw]; exact below_set (HB.out) GB15.out : Below w.heap.size w w18)); have HL159 := Aside0.mk (hm_); have HC147 := Aside0.mk ((Kd.R_reads' hm_).2.1); clear HL145_0; clear hg hw hp_ hz_ hm_ hok17)); try go_wp2_with (first | ((with_reducible refine gate_store (t := 3) (p := 27) rfl ?_); (try (rw [drewN_self wr]; generalize hq_ : World.drewN wr _ = wr; replace HO_3 := Aside0.mk (Kd.S_at hq_ HO_3.out); replace HL159 := Aside0.mk (Kd.R_at hq_ HL159.out); replace HB := Aside0.mk (below_at hq_ HB.out); clear hq_; (try (have hq17 : (0 : Int) < (x3_1.length : Int) := (by have h_ : (0 : Int) < ((x3_1.length : Int) : Int) := dT; first | exact h_ | (have e_ := (Kd.S_reads' HO_3.out).1; omega) | simpa only [List.length_set, List.length_set] using h_))); (try (obtain ⟨oki17, ce17, hcl17, hM17, hcc17, hok17, hbk17⟩ := Kd.S_borrow HO_3.out [] (0 : Int) (by omega) hq17)); (try (obtain ⟨ve17_0, rfl, ge17_0⟩ := hM17)); (try (have hv17 := hcc17 0 _ rfl)); (try (rw [Nat.add_zero, show ((Kd.slice 3 (Kd.int .i64))).sz = 1 from rfl, Nat.mul_one] at hv17)); (try (replace hv17 := Option.some.inj (hv17.symm.trans HX145_0.out))); (try (subst hv17)); (try (clear hcc17 hcl17)); (try (replace ge17_0 := (show Kd.R (Kd.int .i64) 3 _ _ _ _ (rd_L1 x3_1 0) from ge17_0))); (try (have HP17 := Kd.R_putg ge17_0 (0 : Int) 1)))); refine store_event (t := 3) (p := 27) (v := ?vo_w18) (w1 := (wr.setCell ⟨go15, 0, none⟩ (.int .i64 1))) ?hg ?ho ?hn ?hr ?_; (case ho => rfl); (case hg => rfl); (case hn => rfl); (case hr => first | (go_simp; done) | (go_simp; rfl)); intro w18 hw; have hg : wr.grownBy w18 (some go15) := (by rw [hw]; exact HP17.2); have hz_ : Kd.R (Kd.int .i64) 3 w18 w.heap.size oki17 (.slice (some ⟨go15, 0, none⟩) (rd_L1 x3_1 0).length c145_0) y146 := (by rw [hw, Ny146.out]; exact HP17.1); have hp_ : Kd.S (Kd.slice 3 (Kd.int .i64)) 33 w18 w.heap.size (fun _ => True) (.slice (some ad145) x3_1.length co16) y148 := (by rw [Ny148.out]; exact hbk17 hg (fun k_ e_ => by injection e_ with e_; subst e_; exact ge17_0.1 _ rfl) (Kd.M_row hz_)); have hm_ := Kd.R_mono hz_ hok17; clear HP17 hbk17; replace HO_3 := Aside0.mk (hp_); replace HB := Aside0.mk ((by rw [hw]; exact below_set (HB.out) GB15.out : Below w.heap.size w w18)); have HL159 := Aside0.mk (hm_); have HC147 := Aside0.mk ((Kd.R_reads' hm_).2.1); clear HL145_0; clear hg hw hp_ hz_ hm_ hok17)))
      go_loopg [5] k1 (fun kq v5 w' => ∃ (x3_2 : List (List Int)) (x5_2 : Int), v5 = .int .i64 x5_2 ∧ Aside0 (spec_l3Faces.l1 kq a0 x3_2 x5_2 = some r) ∧ Aside0 (kq ≤ k1) ∧ Aside0 (Kd.S (Kd.slice 3 (Kd.int .i64)) 33 w' w.heap.size (fun _ => True) (.slice (some ad145) x3_1.length co16) x3_2) ∧ Aside0 (Below w.heap.size w w'))
      case atStart => exact ⟨(y148), (1), eS, H', ⟨Nat.le_refl _⟩, ⟨by (with_reducible repeat (first | apply Kd.S_alloc | apply Kd.S_drewN | apply Kd.S_drew)); exact HO_3.out⟩, ⟨bP HB⟩⟩
      case round =>
       clear H'
       try clear c1
       try clear p1
       try clear q1
       try clear hx1
       try clear qi1
       try clear hf1
       try clear c2
       try clear p2
       try clear c4
       try clear c4b0
       try clear c6
       try clear c6b0
       try clear c6b1
       try clear p6
       try clear c7
       try clear c7b0
       try clear c7b1
       try clear c8
       try clear c13
       try clear c13b0
       try clear c13b1
       try clear c14
       try clear c14b0
       try clear c14b1
       try clear p14
       try clear q14
       try clear hx14
       try clear qi14
       try clear p15
       try clear q15
       try clear hx15
       try clear qi15
       try clear hf15
       try clear c17
       try clear q17
       try clear hx145_0
       try clear hx15_0
       try clear p145
       try clear p15
       try clear p2
       try clear q145
       try clear q15
       obtain ⟨x3_2, x5_2, rfl, HA, HK2, HO_3, HB⟩ := hrel
       have hl3_2 := (Kd.S_reads' HO_3.out).1
       rw [hl3_2] at HO_3
       (try simp only [hl3_2])
       cases gk with
       | zero => exact absurd HA.out (by simp [spec_l3Faces.l1])
       | succ k2 =>
        have H := HA.out
        clear HA
        simp only [spec_l3Faces.l1] at H
        by_cases c19 : x5_2 ≤ a0
        ·rw [if_pos c19] at H
         have c19b0 : decide (x5_2 ≤ a0) = true := decide_eq_true c19
         clear c19
         have H' := Aside0.mk H
         clear H
         go_wp2
         repeat (go_quiet (fail); try go_wp2)
         go_loopg [6] k2 (fun kq v6 w' => ∃ (x3_3 : List (List Int)) (x6_3 : Int), v6 = .int .i64 x6_3 ∧ Aside0 (spec_l3Faces.l2 kq a0 x3_3 x5_2 x6_3 = some r) ∧ Aside0 (kq ≤ k2) ∧ Aside0 (Kd.S (Kd.slice 3 (Kd.int .i64)) 33 w' w.heap.size (fun _ => True) (.slice (some ad145) x3_2.length co16) x3_3) ∧ Aside0 (Below w.heap.size w w'))
         case atStart => exact ⟨(x3_2), (1), eS, H', ⟨Nat.le_refl _⟩, ⟨by (try simp only [hl3_2]); (with_reducible repeat (first | apply Kd.S_alloc | apply Kd.S_drewN | apply Kd.S_drew)); exact HO_3.out⟩, ⟨bP HB⟩⟩
         case round =>
          clear H'
          try clear c1
          try clear p1
          try clear q1
          try clear hx1
          try clear qi1
          try clear hf1
          try clear c2
          try clear p2
          try clear c4
          try clear c4b0
          try clear c6
          try clear c6b0
          try clear c6b1
          try clear p6
          try clear c7
          try clear c7b0
          try clear c7b1
          try clear c8
          try clear c13
          try clear c13b0
          try clear c13b1
          try clear c14
          try clear c14b0
          try clear c14b1
          try clear p14
          try clear q14
          try clear hx14
          try clear qi14
          try clear p15
          try clear q15
          try clear hx15
          try clear qi15
          try clear hf15
          try clear c17
          try clear q17
          try clear c19
          try clear c19b0
          try clear hx145_0
          try clear hx15_0
          try clear p1
          try clear p14
          try clear p145
          try clear p15
          try clear p2
          try clear p6
          try clear q1
          try clear q14
          try clear q145
          try clear q15
          try clear q17
          obtain ⟨x3_3, x6_3, rfl, HA, HK3, HO_3, HB⟩ := hrel
          have hl3_3 := (Kd.S_reads' HO_3.out).1
          rw [hl3_3] at HO_3
          (try simp only [hl3_3])
          cases gk with
          | zero => exact absurd HA.out (by simp [spec_l3Faces.l2])
          | succ k3 =>
           have H := HA.out
           clear HA
           simp only [spec_l3Faces.l2] at H
           by_cases c20 : x6_3 ≤ (wrap64 (2 * a0))
           ·rw [if_pos c20] at H
            have c20b0 : decide (x6_3 ≤ (wrap64 (2 * a0))) = true := decide_eq_true c20
            clear c20
            have H' := Aside0.mk H
            clear H
            go_wp2
            repeat (go_quiet (fail); try go_wp2)
            go_loopg [7, 8] k3 (fun kq v7 v8 w' => ∃ (x7_4 : Int) (x8_4 : Int), v7 = .int .i64 x7_4 ∧ v8 = .int .i64 x8_4 ∧ Aside0 (spec_l3Faces.l3 kq a0 x3_3 x5_2 x6_3 x7_4 x8_4 = some r) ∧ Aside0 (kq ≤ k3) ∧ Aside0 (Kd.S (Kd.slice 3 (Kd.int .i64)) 33 w' w.heap.size (fun _ => True) (.slice (some ad145) x3_3.length co16) x3_3) ∧ Aside0 (Below w.heap.size w w'))
            case atStart => exact ⟨(0), (0), eS, eS, H', ⟨Nat.le_refl _⟩, ⟨by (try simp only [hl3_2]); (try simp only [hl3_3]); (with_reducible repeat (first | apply Kd.S_alloc | apply Kd.S_drewN | apply Kd.S_drew)); exact HO_3.out⟩, ⟨bP HB⟩⟩
            case round =>
             clear H'
             try clear c1
             try clear p1
             try clear q1
             try clear hx1
             try clear qi1
             try clear hf1
             try clear c2
             try clear p2
             try clear c4
             try clear c4b0
             try clear c6
             try clear c6b0
             try clear c6b1
             try clear p6
             try clear c7
             try clear c7b0
             try clear c7b1
             try clear c8
             try clear c13
             try clear c13b0
             try clear c13b1
             try clear c14
             try clear c14b0
             try clear c14b1
             try clear p14
             try clear q14
             try clear hx14
             try clear qi14
             try clear p15
             try clear q15
             try clear hx15
             try clear qi15
             try clear hf15
             try clear c17
             try clear q17
             try clear c19
             try clear c19b0
             try clear c20
             try clear c20b0
             try clear hx145_0
             try clear hx15_0
             try clear p1
             try clear p14
             try clear p145
             try clear p15
             try clear p2
             try clear p6
             try clear q1
             try clear q14
             try clear q145
             try clear q15
             try clear q17
             obtain ⟨x7_4, x8_4, rfl, rfl, HA, HK4, HO_3, HB⟩ := hrel
             cases gk with
             | zero => exact absurd HA.out (by simp [spec_l3Faces.l3])
             | succ k4 =>
              have H := HA.out
              clear HA
              simp only [spec_l3Faces.l3] at H
              by_cases c21 : x8_4 < x5_2
              ·rw [if_pos c21] at H
               have c21b0 : decide (x8_4 < x5_2) = true := decide_eq_true c21
               clear c21
               have H' := Aside0.mk H
               clear H
               go_wp2
               repeat (go_quiet (fail); try go_wp2)
               go_loopg [7, 9] k4 (fun kq v7 v9 w' => ∃ (x7_5 : Int) (x9_5 : Int), v7 = .int .i64 x7_5 ∧ v9 = .int .i64 x9_5 ∧ Aside0 (spec_l3Faces.l4 kq a0 x3_3 x5_2 x6_3 x7_5 x8_4 x9_5 = some r) ∧ Aside0 (kq ≤ k4) ∧ Aside0 (Kd.S (Kd.slice 3 (Kd.int .i64)) 33 w' w.heap.size (fun _ => True) (.slice (some ad145) x3_3.length co16) x3_3) ∧ Aside0 (Below w.heap.size w w'))
               case atStart => exact ⟨(x7_4), (0), eS, eS, H', ⟨Nat.le_refl _⟩, ⟨by (try simp only [hl3_2]); (try simp only [hl3_3]); (with_reducible repeat (first | apply Kd.S_alloc | apply Kd.S_drewN | apply Kd.S_drew)); exact HO_3.out⟩, ⟨bP HB⟩⟩
               case round =>
                clear H'
                try clear c1
                try clear p1
                try clear q1
                try clear hx1
                try clear qi1
                try clear hf1
                try clear c2
                try clear p2
                try clear c4
                try clear c4b0
                try clear c6
                try clear c6b0
                try clear c6b1
                try clear p6
                try clear c7
                try clear c7b0
                try clear c7b1
                try clear c8
                try clear c13
                try clear c13b0
                try clear c13b1
                try clear c14
                try clear c14b0
                try clear c14b1
                try clear p14
                try clear q14
                try clear hx14
                try clear qi14
                try clear p15
                try clear q15
                try clear hx15
                try clear qi15
                try clear hf15
                try clear c17
                try clear q17
                try clear c19
                try clear c19b0
                try clear c20
                try clear c20b0
                try clear c21
                try clear c21b0
                try clear hx145_0
                try clear hx15_0
                try clear p1
                try clear p14
                try clear p145
                try clear p15
                try clear p2
                try clear p6
                try clear q1
                try clear q14
                try clear q145
                try clear q15
                try clear q17
                obtain ⟨x7_5, x9_5, rfl, rfl, HA, HK5, HO_3, HB⟩ := hrel
                cases gk with
                | zero => exact absurd HA.out (by simp [spec_l3Faces.l4])
                | succ k5 =>
                 have H := HA.out
                 clear HA
                 simp only [spec_l3Faces.l4] at H
                 by_cases c22 : x9_5 ≤ (wrap64 (x6_3 - 2))
                 ·rw [if_pos c22] at H
                  have c22b0 : decide (x9_5 ≤ (wrap64 (x6_3 - 2))) = true := decide_eq_true c22
                  clear c22
                  by_cases c23 : 0 ≤ x8_4
                  ·rw [if_pos c23] at H
                   have c23b0 : decide (0 ≤ x8_4) = true := decide_eq_true c23
                   clear c23
                   by_cases c24 : x8_4 < (x3_3.length : Int)
                   ·rw [if_pos c24] at H
                    have c24b0 : decide (x8_4 < (x3_3.length : Int)) = true := decide_eq_true c24
                    clear c24
                    by_cases c25 : 0 ≤ x9_5
                    ·rw [if_pos c25] at H
                     have c25b0 : decide (0 ≤ x9_5) = true := decide_eq_true c25
                     clear c25
                     by_cases c26 : x9_5 < ((rd_L1 x3_3 x8_4).length : Int)
                     ·rw [if_pos c26] at H
                      have c26b0 : decide (x9_5 < ((rd_L1 x3_3 x8_4).length : Int)) = true := decide_eq_true c26
                      clear c26
                      obtain ⟨ji27, hji27⟩ : ∃ j_ : Int, (wrap64 ((wrap64 (x5_2 - 1)) - x8_4)) = j_ := ⟨_, rfl⟩
                      replace H : (if 0 ≤ (ji27) then (if (ji27) < (x3_3.length : Int) then (if 0 ≤ (wrap64 ((wrap64 (x6_3 - 2)) - x9_5)) then (if (wrap64 ((wrap64 (x6_3 - 2)) - x9_5)) < ((rd_L1 x3_3 (ji27)).length : Int) then (spec_l3Faces.l4 k5 a0 x3_3 x5_2 x6_3 (wrap64 (x7_5 + (wrap64 ((rd (rd_L1 x3_3 x8_4) x9_5) * (rd (rd_L1 x3_3 (ji27)) (wrap64 ((wrap64 (x6_3 - 2)) - x9_5))))))) x8_4 (wrap64 (x9_5 + 1))) else (none)) else (none)) else (none)) else (none)) = some r := by first | (rw [hji27] at H; exact H) | (simp only [hji27] at H ⊢; exact H)
                      have hji27w : (IntKind.i64.wrap ((wrap64 (x5_2 - 1)) - x8_4)) = ji27 := (i64_w _).trans hji27
                      by_cases c28 : 0 ≤ (ji27)
                      ·rw [if_pos c28] at H
                       have c28b0 : decide (0 ≤ (ji27)) = true := decide_eq_true c28
                       clear c28
                       by_cases c29 : (ji27) < (x3_3.length : Int)
                       ·rw [if_pos c29] at H
                        have c29b0 : decide ((ji27) < (x3_3.length : Int)) = true := decide_eq_true c29
                        clear c29
                        obtain ⟨ji30, hji30⟩ : ∃ j_ : Int, (wrap64 ((wrap64 (x6_3 - 2)) - x9_5)) = j_ := ⟨_, rfl⟩
                        replace H : (if 0 ≤ (ji30) then (if (ji30) < ((rd_L1 x3_3 (ji27)).length : Int) then (spec_l3Faces.l4 k5 a0 x3_3 x5_2 x6_3 (wrap64 (x7_5 + (wrap64 ((rd (rd_L1 x3_3 x8_4) x9_5) * (rd (rd_L1 x3_3 (ji27)) (ji30)))))) x8_4 (wrap64 (x9_5 + 1))) else (none)) else (none)) = some r := by first | (rw [hji30] at H; exact H) | (simp only [hji30] at H ⊢; exact H)
                        have hji30w : (IntKind.i64.wrap ((wrap64 (x6_3 - 2)) - x9_5)) = ji30 := (i64_w _).trans hji30
                        by_cases c31 : 0 ≤ (ji30)
                        ·rw [if_pos c31] at H
                         have c31b0 : decide (0 ≤ (ji30)) = true := decide_eq_true c31
                         clear c31
                         by_cases c32 : (ji30) < ((rd_L1 x3_3 (ji27)).length : Int)
                         ·rw [if_pos c32] at H
                          have c32b0 : decide ((ji30) < ((rd_L1 x3_3 (ji27)).length : Int)) = true := decide_eq_true c32
                          clear c32
                          have H' := Aside0.mk H
                          clear H
                          have p149 : 0 ≤ (x8_4 : Int) := dT
                          have q149 : x8_4 < (x3_3.length : Int) := dT
                          obtain ⟨ad149, A149_0, c149_0, e149, hx149_0, hl149_0, hi149_0⟩ := at_L1 (Kd.S_reads' HO_3.out).2.2 x8_4 p149 q149
                          obtain rfl : ad145 = ad149 := (by injection e149)
                          obtain ⟨ce149, hce149, hMe149, hcc149⟩ := Kd.S_get HO_3.out [] x8_4 p149 (by first | exact q149 | exact dT | (have e_ := (Kd.S_reads' HO_3.out).1; omega))
                          obtain ⟨ve149_0, rfl, ge149_0⟩ := hMe149
                          have hv149_0 := hcc149 0 _ rfl
                          rw [Nat.add_zero, show ((Kd.slice 3 (Kd.int .i64))).sz = 1 from rfl, Nat.mul_one] at hv149_0
                          replace hv149_0 := Option.some.inj (hv149_0.symm.trans hx149_0)
                          rw [hv149_0] at ge149_0
                          have HL149_0 := Aside0.mk (show Kd.R (Kd.int .i64) 3 _ _ _ _ (rd_L1 x3_3 x8_4) from ge149_0)
                          clear hv149_0 ge149_0
                          have HX149_0 := Aside0.mk hx149_0
                          clear hcc149 hce149
                          have HR149_0 := Aside0.mk hi149_0
                          have HC149_0 := Aside0.mk hl149_0
                          clear hi149_0 hl149_0
                          replace p149 := eq_true p149
                          replace q149 := eq_true q149
                          have p150 : 0 ≤ (x9_5 : Int) := dT
                          have q150 : x9_5 < ((rd_L1 x3_3 x8_4).length : Int) := dT
                          obtain ⟨ad150, e150, hx150_0⟩ := Kd.at_int (by repeat (first | (with_reducible exact HR149_0.out) | (with_reducible refine Kd.C_alloc ?_ _) | (with_reducible refine Kd.C_drewN ?_ _) | (with_reducible refine Kd.C_drew ?_) | exact HR149_0.out)) x9_5 p150 q150
                          cases e150
                          replace p150 := eq_true p150
                          replace q150 := eq_true q150
                          have p151 : 0 ≤ ((ji27) : Int) := dT
                          have q151 : (ji27) < (x3_3.length : Int) := dT
                          obtain ⟨ad151, A151_0, c151_0, e151, hx151_0, hl151_0, hi151_0⟩ := at_L1 (Kd.S_reads' HO_3.out).2.2 (ji27) p151 q151
                          obtain rfl : ad145 = ad151 := (by injection e151)
                          obtain ⟨ce151, hce151, hMe151, hcc151⟩ := Kd.S_get HO_3.out [] (ji27) p151 (by first | exact q151 | exact dT | (have e_ := (Kd.S_reads' HO_3.out).1; omega))
                          obtain ⟨ve151_0, rfl, ge151_0⟩ := hMe151
                          have hv151_0 := hcc151 0 _ rfl
                          rw [Nat.add_zero, show ((Kd.slice 3 (Kd.int .i64))).sz = 1 from rfl, Nat.mul_one] at hv151_0
                          replace hv151_0 := Option.some.inj (hv151_0.symm.trans hx151_0)
                          rw [hv151_0] at ge151_0
                          have HL151_0 := Aside0.mk (show Kd.R (Kd.int .i64) 3 _ _ _ _ (rd_L1 x3_3 (ji27)) from ge151_0)
                          clear hv151_0 ge151_0
                          have HX151_0 := Aside0.mk hx151_0
                          clear hcc151 hce151
                          have HR151_0 := Aside0.mk hi151_0
                          have HC151_0 := Aside0.mk hl151_0
                          clear hi151_0 hl151_0
                          replace p151 := eq_true p151
                          replace q151 := eq_true q151
                          have p152 : 0 ≤ ((ji30) : Int) := dT
                          have q152 : (ji30) < ((rd_L1 x3_3 (ji27)).length : Int) := dT
                          obtain ⟨ad152, e152, hx152_0⟩ := Kd.at_int (by repeat (first | (with_reducible exact HR151_0.out) | (with_reducible refine Kd.C_alloc ?_ _) | (with_reducible refine Kd.C_drewN ?_ _) | (with_reducible refine Kd.C_drew ?_) | exact HR151_0.out)) (ji30) p152 q152
                          cases e152
                          replace p152 := eq_true p152
                          replace q152 := eq_true q152
                          go_wp2
                          repeat (go_quiet (fail); try go_wp2)
                          go_roundg k5
                          case measure => have := HK1.out; have := HK2.out; have := HK3.out; have := HK4.out; have := HK5.out; omega
                          case rel => exact ⟨(wrap64 (x7_5 + (wrap64 ((rd (rd_L1 x3_3 x8_4) x9_5) * (rd (rd_L1 x3_3 (ji27)) (ji30)))))), (wrap64 (x9_5 + 1)), (by first | rfl | (simp; done) | (simp only [← hji27, ← hji30] <;> (first | rfl | simp)) | (simp [*]; done)), eS, H', ⟨by have := HK1.out; have := HK2.out; have := HK3.out; have := HK4.out; have := HK5.out; omega⟩, ⟨by (try simp only [hl3_2]); (try simp only [hl3_3]); (with_reducible repeat (first | apply Kd.S_alloc | apply Kd.S_drewN | apply Kd.S_drew)); exact HO_3.out⟩, ⟨bP HB⟩⟩
                         ·rw [if_neg c32] at H
                          exact absurd H (by simp)
                        ·rw [if_neg c31] at H
                         exact absurd H (by simp)
                       ·rw [if_neg c29] at H
                        exact absurd H (by simp)
                      ·rw [if_neg c28] at H
                       exact absurd H (by simp)
                     ·rw [if_neg c26] at H
                      exact absurd H (by simp)
                    ·rw [if_neg c25] at H
                     exact absurd H (by simp)
                   ·rw [if_neg c24] at H
                    exact absurd H (by simp)
                  ·rw [if_neg c23] at H
                   exact absurd H (by simp)
                 ·rw [if_neg c22] at H
                  have c22b0 : decide (x9_5 ≤ (wrap64 (x6_3 - 2))) = false := decide_eq_false c22
                  clear c22
                  have H' := Aside0.mk H
                  clear H
                  go_wp2
                  repeat (go_quiet (fail); try go_wp2)
                  go_roundg k5
                  case measure => have := HK1.out; have := HK2.out; have := HK3.out; have := HK4.out; have := HK5.out; omega
                  case rel => exact ⟨(x7_5), (wrap64 (x8_4 + 1)), eS, eS, H', ⟨by have := HK1.out; have := HK2.out; have := HK3.out; have := HK4.out; have := HK5.out; omega⟩, ⟨by (try simp only [hl3_2]); (try simp only [hl3_3]); (with_reducible repeat (first | apply Kd.S_alloc | apply Kd.S_drewN | apply Kd.S_drew)); exact HO_3.out⟩, ⟨bP HB⟩⟩
              ·rw [if_neg c21] at H
               have c21b0 : decide (x8_4 < x5_2) = false := decide_eq_false c21
               clear c21
               have H' := Aside0.mk H
               clear H
               go_wp2
               repeat (go_quiet (fail); try go_wp2)
               go_loopg [7, 10] k4 (fun kq v7 v10 w' => ∃ (x7_5 : Int) (x10_5 : Int), v7 = .int .i64 x7_5 ∧ v10 = .int .i64 x10_5 ∧ Aside0 (spec_l3Faces.l5 kq a0 x3_3 x5_2 x6_3 x7_5 x10_5 = some r) ∧ Aside0 (kq ≤ k4) ∧ Aside0 (Kd.S (Kd.slice 3 (Kd.int .i64)) 33 w' w.heap.size (fun _ => True) (.slice (some ad145) x3_3.length co16) x3_3) ∧ Aside0 (Below w.heap.size w w'))
               case atStart => exact ⟨(x7_4), (wrap64 (x6_3 - 1)), eS, eS, H', ⟨Nat.le_refl _⟩, ⟨by (try simp only [hl3_2]); (try simp only [hl3_3]); (with_reducible repeat (first | apply Kd.S_alloc | apply Kd.S_drewN | apply Kd.S_drew)); exact HO_3.out⟩, ⟨bP HB⟩⟩
               case round =>
                clear H'
                try clear c1
                try clear p1
                try clear q1
                try clear hx1
                try clear qi1
                try clear hf1
                try clear c2
                try clear p2
                try clear c3
                try clear c4
                try clear c4b0
                try clear c6
                try clear c6b0
                try clear c6b1
                try clear p6
                try clear c7
                try clear c7b0
                try clear c7b1
                try clear c8
                try clear c13
                try clear c13b0
                try clear c13b1
                try clear c14
                try clear c14b0
                try clear c14b1
                try clear p14
                try clear q14
                try clear hx14
                try clear qi14
                try clear c15
                try clear p15
                try clear q15
                try clear hx15
                try clear qi15
                try clear hf15
                try clear c17
                try clear q17
                try clear c19
                try clear c19b0
                try clear c20
                try clear c20b0
                try clear c21
                try clear c21b0
                try clear c22
                try clear c22b0
                try clear c23
                try clear c23b0
                try clear c24
                try clear c24b0
                try clear c25
                try clear c25b0
                try clear c26
                try clear c26b0
                try clear c28
                try clear c28b0
                try clear c29
                try clear c29b0
                try clear c31
                try clear c31b0
                try clear c32
                try clear c32b0
                try clear hx145_0
                try clear hx149_0
                try clear hx150_0
                try clear hx151_0
                try clear hx152_0
                try clear hx15_0
                try clear p1
                try clear p14
                try clear p145
                try clear p149
                try clear p15
                try clear p150
                try clear p151
                try clear p152
                try clear p2
                try clear p6
                try clear q1
                try clear q14
                try clear q145
                try clear q149
                try clear q15
                try clear q150
                try clear q151
                try clear q152
                try clear q17
                obtain ⟨x7_5, x10_5, rfl, rfl, HA, HK5, HO_3, HB⟩ := hrel
                cases gk with
                | zero => exact absurd HA.out (by simp [spec_l3Faces.l5])
                | succ k5 =>
                 have H := HA.out
                 clear HA
                 simp only [spec_l3Faces.l5] at H
                 by_cases c33 : x10_5 ≤ (wrap64 (2 * a0))
                 ·rw [if_pos c33] at H
                  have c33b0 : decide (x10_5 ≤ (wrap64 (2 * a0))) = true := decide_eq_true c33
                  clear c33
                  obtain ⟨ji34, hji34⟩ : ∃ j_ : Int, (wrap64 (x5_2 - 1)) = j_ := ⟨_, rfl⟩
                  replace H : (if 0 ≤ (ji34) then (if (ji34) < (x3_3.length : Int) then (if 0 ≤ x10_5 then (if x10_5 < ((rd_L1 x3_3 (ji34)).length : Int) then (spec_l3Faces.l5 k5 a0 x3_3 x5_2 x6_3 (wrap64 (x7_5 + (rd (rd_L1 x3_3 (ji34)) x10_5))) (wrap64 (x10_5 + 1))) else (none)) else (none)) else (none)) else (none)) = some r := by first | (rw [hji34] at H; exact H) | (simp only [hji34] at H ⊢; exact H)
                  have hji34w : (IntKind.i64.wrap (x5_2 - 1)) = ji34 := (i64_w _).trans hji34
                  by_cases c35 : 0 ≤ (ji34)
                  ·rw [if_pos c35] at H
                   have c35b0 : decide (0 ≤ (ji34)) = true := decide_eq_true c35
                   clear c35
                   by_cases c36 : (ji34) < (x3_3.length : Int)
                   ·rw [if_pos c36] at H
                    have c36b0 : decide ((ji34) < (x3_3.length : Int)) = true := decide_eq_true c36
                    clear c36
                    by_cases c37 : 0 ≤ x10_5
                    ·rw [if_pos c37] at H
                     have c37b0 : decide (0 ≤ x10_5) = true := decide_eq_true c37
                     clear c37
                     by_cases c38 : x10_5 < ((rd_L1 x3_3 (ji34)).length : Int)
                     ·rw [if_pos c38] at H
                      have c38b0 : decide (x10_5 < ((rd_L1 x3_3 (ji34)).length : Int)) = true := decide_eq_true c38
                      clear c38
                      have H' := Aside0.mk H
                      clear H
                      have p153 : 0 ≤ ((ji34) : Int) := dT
                      have q153 : (ji34) < (x3_3.length : Int) := dT
                      obtain ⟨ad153, A153_0, c153_0, e153, hx153_0, hl153_0, hi153_0⟩ := at_L1 (Kd.S_reads' HO_3.out).2.2 (ji34) p153 q153
                      obtain rfl : ad145 = ad153 := (by injection e153)
                      obtain ⟨ce153, hce153, hMe153, hcc153⟩ := Kd.S_get HO_3.out [] (ji34) p153 (by first | exact q153 | exact dT | (have e_ := (Kd.S_reads' HO_3.out).1; omega))
                      obtain ⟨ve153_0, rfl, ge153_0⟩ := hMe153
                      have hv153_0 := hcc153 0 _ rfl
                      rw [Nat.add_zero, show ((Kd.slice 3 (Kd.int .i64))).sz = 1 from rfl, Nat.mul_one] at hv153_0
                      replace hv153_0 := Option.some.inj (hv153_0.symm.trans hx153_0)
                      rw [hv153_0] at ge153_0
                      have HL153_0 := Aside0.mk (show Kd.R (Kd.int .i64) 3 _ _ _ _ (rd_L1 x3_3 (ji34)) from ge153_0)
                      clear hv153_0 ge153_0
                      have HX153_0 := Aside0.mk hx153_0
                      clear hcc153 hce153
                      have HR153_0 := Aside0.mk hi153_0
                      have HC153_0 := Aside0.mk hl153_0
                      clear hi153_0 hl153_0
                      replace p153 := eq_true p153
                      replace q153 := eq_true q153
                      have p154 : 0 ≤ (x10_5 : Int) := dT
                      have q154 : x10_5 < ((rd_L1 x3_3 (ji34)).length : Int) := dT
                      obtain ⟨ad154, e154, hx154_0⟩ := Kd.at_int (by repeat (first | (with_reducible exact HR153_0.out) | (with_reducible refine Kd.C_alloc ?_ _) | (with_reducible refine Kd.C_drewN ?_ _) | (with_reducible refine Kd.C_drew ?_) | exact HR153_0.out)) x10_5 p154 q154
                      cases e154
                      replace p154 := eq_true p154
                      replace q154 := eq_true q154
                      go_wp2
                      repeat (go_quiet (fail); try go_wp2)
                      go_roundg k5
                      case measure => have := HK1.out; have := HK2.out; have := HK3.out; have := HK4.out; have := HK5.out; omega
                      case rel => exact ⟨(wrap64 (x7_5 + (rd (rd_L1 x3_3 (ji34)) x10_5))), (wrap64 (x10_5 + 1)), (by first | rfl | (simp; done) | (simp only [← hji34] <;> (first | rfl | simp)) | (simp [*]; done)), eS, H', ⟨by have := HK1.out; have := HK2.out; have := HK3.out; have := HK4.out; have := HK5.out; omega⟩, ⟨by (try simp only [hl3_2]); (try simp only [hl3_3]); (with_reducible repeat (first | apply Kd.S_alloc | apply Kd.S_drewN | apply Kd.S_drew)); exact HO_3.out⟩, ⟨bP HB⟩⟩
                     ·rw [if_neg c38] at H
                      exact absurd H (by simp)
                    ·rw [if_neg c37] at H
                     exact absurd H (by simp)
                   ·rw [if_neg c36] at H
                    exact absurd H (by simp)
                  ·rw [if_neg c35] at H
                   exact absurd H (by simp)
                 ·rw [if_neg c33] at H
                  have c33b0 : decide (x10_5 ≤ (wrap64 (2 * a0))) = false := decide_eq_false c33
                  clear c33
                  by_cases c39 : 0 ≤ x5_2
                  ·rw [if_pos c39] at H
                   have c39b0 : decide (0 ≤ x5_2) = true := decide_eq_true c39
                   clear c39
                   by_cases c40 : x5_2 < (x3_3.length : Int)
                   ·rw [if_pos c40] at H
                    have c40b0 : decide (x5_2 < (x3_3.length : Int)) = true := decide_eq_true c40
                    clear c40
                    by_cases c41 : 0 ≤ x6_3
                    ·rw [if_pos c41] at H
                     have c41b0 : decide (0 ≤ x6_3) = true := decide_eq_true c41
                     clear c41
                     by_cases c42 : x6_3 < ((rd_L1 x3_3 x5_2).length : Int)
                     ·rw [if_pos c42] at H
                      have c42b0 : decide (x6_3 < ((rd_L1 x3_3 x5_2).length : Int)) = true := decide_eq_true c42
                      clear c42
                      obtain ⟨y156, hy156⟩ : ∃ y_ : List Int, y_ = ((rd_L1 x3_3 x5_2).set (x6_3 : Int).toNat x7_5) := ⟨_, rfl⟩
                      replace H : (spec_l3Faces.l2 k5 a0 (x3_3.set (x5_2 : Int).toNat y156) x5_2 (wrap64 (x6_3 + 1))) = some r := by first | (rw [hy156]; with_reducible exact H) | (have H2_ := (Option.bind_some _ _).symm.trans H; rw [hy156]; with_reducible exact H2_) | (have H2_ := (Option.bind_some _ _).symm.trans H; with_reducible exact H2_) | with_reducible exact H | (rw [hy156]; exact H) | exact H
                      have Ny156 := Aside0.mk hy156
                      clear hy156
                      obtain ⟨y158, hy158⟩ : ∃ y_ : List (List Int), y_ = (x3_3.set (x5_2 : Int).toNat y156) := ⟨_, rfl⟩
                      replace H : (spec_l3Faces.l2 k5 a0 y158 x5_2 (wrap64 (x6_3 + 1))) = some r := by first | (rw [hy158]; with_reducible exact H) | (have H2_ := (Option.bind_some _ _).symm.trans H; rw [hy158]; with_reducible exact H2_) | (have H2_ := (Option.bind_some _ _).symm.trans H; with_reducible exact H2_) | with_reducible exact H | (rw [hy158]; exact H) | exact H
                      have Ny158 := Aside0.mk hy158
                      clear hy158
                      have H' := Aside0.mk H
                      clear H
                      have p155 : 0 ≤ (x5_2 : Int) := dT
                      have q155 : x5_2 < (x3_3.length : Int) := dT
                      obtain ⟨ad155, A155_0, c155_0, e155, hx155_0, hl155_0, hi155_0⟩ := at_L1 (Kd.S_reads' HO_3.out).2.2 x5_2 p155 q155
                      obtain rfl : ad145 = ad155 := (by injection e155)
                      obtain ⟨ce155, hce155, hMe155, hcc155⟩ := Kd.S_get HO_3.out [] x5_2 p155 (by first | exact q155 | exact dT | (have e_ := (Kd.S_reads' HO_3.out).1; omega))
                      obtain ⟨ve155_0, rfl, ge155_0⟩ := hMe155
                      have hv155_0 := hcc155 0 _ rfl
                      rw [Nat.add_zero, show ((Kd.slice 3 (Kd.int .i64))).sz = 1 from rfl, Nat.mul_one] at hv155_0
                      replace hv155_0 := Option.some.inj (hv155_0.symm.trans hx155_0)
                      rw [hv155_0] at ge155_0
                      have HL155_0 := Aside0.mk (show Kd.R (Kd.int .i64) 3 _ _ _ _ (rd_L1 x3_3 x5_2) from ge155_0)
                      clear hv155_0 ge155_0
                      have HX155_0 := Aside0.mk hx155_0
                      clear hcc155 hce155
                      have HR155_0 := Aside0.mk hi155_0
                      have HC155_0 := Aside0.mk hl155_0
                      clear hi155_0 hl155_0
                      replace p155 := eq_true p155
                      replace q155 := eq_true q155
                      have p43 : 0 ≤ (x6_3 : Int) := dT
                      have q43 : (x6_3 : Int) < (((rd_L1 x3_3 x5_2).length : Int) : Int) := dT
                      obtain ⟨go43, co43, eo43, gb43, gl43, cl43, HG43⟩ := Kd.R_form HL155_0.out (by omega)
                      (first | cases eo43 | (injection eo43 with ea_ en_ ec_; (first | subst ea_ | (injection ea_ with ea_; subst ea_)); subst ec_; clear en_))
                      have GB43 := Aside0.mk gb43
                      have GG43 := Aside0.mk HG43
                      clear gb43 gl43 HG43
                      obtain ⟨hx43_0, hf43_0⟩ := Kd.R_celln 0 HL155_0.out (x6_3 : Int) p43 q43
                      replace p43 := eq_true p43
                      replace q43 := eq_true q43
                      have hq44 : (x5_2 : Int) < (x3_3.length : Int) := (by have h_ : (x5_2 : Int) < ((x3_3.length : Int) : Int) := dT; first | exact h_ | (have e_ := (Kd.S_reads' HO_3.out).1; omega) | simpa only [List.length_set, List.length_set] using h_)
                      obtain ⟨oki44, ce44, hcl44, hM44, hcc44, hok44, hbk44⟩ := Kd.S_borrow HO_3.out [] (x5_2 : Int) (dT) hq44
                      obtain ⟨ve44_0, rfl, ge44_0⟩ := hM44
                      have hv44 := hcc44 0 _ rfl
                      rw [Nat.add_zero, show ((Kd.slice 3 (Kd.int .i64))).sz = 1 from rfl, Nat.mul_one] at hv44
                      replace hv44 := Option.some.inj (hv44.symm.trans HX155_0.out)
                      subst hv44
                      clear hcc44 hcl44
                      replace ge44_0 := (show Kd.R (Kd.int .i64) 3 _ _ _ _ (rd_L1 x3_3 x5_2) from ge44_0)
                      have HP44 := Kd.R_putg ge44_0 (x6_3 : Int) x7_5
                      go_wp2_with (first | ((with_reducible refine gate_store (t := 3) (p := 97) rfl ?_); (try (rw [drewN_self wr]; generalize hq_ : World.drewN wr _ = wr; replace HO_3 := Aside0.mk (Kd.S_at hq_ HO_3.out); replace HL160 := Aside0.mk (Kd.R_at hq_ HL160.out); replace HB := Aside0.mk (below_at hq_ HB.out); clear hq_; (try (have hq44 : (x5_2 : Int) < (x3_3.length : Int) := (by have h_ : (x5_2 : Int) < ((x3_3.length : Int) : Int) := dT; first | exact h_ | (have e_ := (Kd.S_reads' HO_3.out).1; omega) | simpa only [List.length_set, List.length_set] using h_))); (try (obtain ⟨oki44, ce44, hcl44, hM44, hcc44, hok44, hbk44⟩ := Kd.S_borrow HO_3.out [] (x5_2 : Int) (dT) hq44)); (try (obtain ⟨ve44_0, rfl, ge44_0⟩ := hM44)); (try (have hv44 := hcc44 0 _ rfl)); (try (rw [Nat.add_zero, show ((Kd.slice 3 (Kd.int .i64))).sz = 1 from rfl, Nat.mul_one] at hv44)); (try (replace hv44 := Option.some.inj (hv44.symm.trans HX155_0.out))); (try (subst hv44)); (try (clear hcc44 hcl44)); (try (replace ge44_0 := (show Kd.R (Kd.int .i64) 3 _ _ _ _ (rd_L1 x3_3 x5_2) from ge44_0))); (try (have HP44 := Kd.R_putg ge44_0 (x6_3 : Int) x7_5)))); refine store_event (t := 3) (p := 97) (v := ?vo_w45) (w1 := (wr.setCell ⟨go43, (x6_3 : Int).toNat, none⟩ (.int .i64 x7_5))) ?hg ?ho ?hn ?hr ?_; (case ho => rfl); (case hg => rfl); (case hn => rfl); (case hr => first | (go_simp; done) | (go_simp; rfl)); intro w45 hw; have hg : wr.grownBy w45 (some go43) := (by rw [hw]; exact HP44.2); have hz_ : Kd.R (Kd.int .i64) 3 w45 w.heap.size oki44 (.slice (some ⟨go43, 0, none⟩) (rd_L1 x3_3 x5_2).length c155_0) y156 := (by rw [hw, Ny156.out]; exact HP44.1); have hp_ : Kd.S (Kd.slice 3 (Kd.int .i64)) 33 w45 w.heap.size (fun _ => True) (.slice (some ad145) x3_3.length co16) y158 := (by rw [Ny158.out]; exact hbk44 hg (fun k_ e_ => by injection e_ with e_; subst e_; exact ge44_0.1 _ rfl) (Kd.M_row hz_)); have hm_ := Kd.R_mono hz_ hok44; clear HP44 hbk44; replace HO_3 := Aside0.mk (hp_); replace HB := Aside0.mk ((by rw [hw]; exact below_set (HB.out) GB43.out : Below w.heap.size w w45)); have HL160 := Aside0.mk (hm_); have HC157 := Aside0.mk ((Kd.R_reads' hm_).2.1); clear HL155_0; clear hg hw hp_ hz_ hm_ hok44))
                      repeat (go_quiet (first | ((with_reducible refine gate_store (t := 3) (p := 97) rfl ?_); (try (rw [drewN_self wr]; generalize hq_ : World.drewN wr _ = wr; replace HO_3 := Aside0.mk (Kd.S_at hq_ HO_3.out); replace HL160 := Aside0.mk (Kd.R_at hq_ HL160.out); replace HB := Aside0.mk (below_at hq_ HB.out); clear hq_; (try (have hq44 : (x5_2 : Int) < (x3_3.length : Int) := (by have h_ : (x5_2 : Int) < ((x3_3.length : Int) : Int) := dT; first | exact h_ | (have e_ := (Kd.S_reads' HO_3.out).1; omega) | simpa only [List.length_set, List.length_set] using h_))); (try (obtain ⟨oki44, ce44, hcl44, hM44, hcc44, hok44, hbk44⟩ := Kd.S_borrow HO_3.out [] (x5_2 : Int) (dT) hq44)); (try (obtain ⟨ve44_0, rfl, ge44_0⟩ := hM44)); (try (have hv44 := hcc44 0 _ rfl)); (try (rw [Nat.add_zero, show ((Kd.slice 3 (Kd.int .i64))).sz = 1 from rfl, Nat.mul_one] at hv44)); (try (replace hv44 := Option.some.inj (hv44.symm.trans HX155_0.out))); (try (subst hv44)); (try (clear hcc44 hcl44)); (try (replace ge44_0 := (show Kd.R (Kd.int .i64) 3 _ _ _ _ (rd_L1 x3_3 x5_2) from ge44_0))); (try (have HP44 := Kd.R_putg ge44_0 (x6_3 : Int) x7_5)))); refine store_event (t := 3) (p := 97) (v := ?vo_w45) (w1 := (wr.setCell ⟨go43, (x6_3 : Int).toNat, none⟩ (.int .i64 x7_5))) ?hg ?ho ?hn ?hr ?_; (case ho => rfl); (case hg => rfl); (case hn => rfl); (case hr => first | (go_simp; done) | (go_simp; rfl)); intro w45 hw; have hg : wr.grownBy w45 (some go43) := (by rw [hw]; exact HP44.2); have hz_ : Kd.R (Kd.int .i64) 3 w45 w.heap.size oki44 (.slice (some ⟨go43, 0, none⟩) (rd_L1 x3_3 x5_2).length c155_0) y156 := (by rw [hw, Ny156.out]; exact HP44.1); have hp_ : Kd.S (Kd.slice 3 (Kd.int .i64)) 33 w45 w.heap.size (fun _ => True) (.slice (some ad145) x3_3.length co16) y158 := (by rw [Ny158.out]; exact hbk44 hg (fun k_ e_ => by injection e_ with e_; subst e_; exact ge44_0.1 _ rfl) (Kd.M_row hz_)); have hm_ := Kd.R_mono hz_ hok44; clear HP44 hbk44; replace HO_3 := Aside0.mk (hp_); replace HB := Aside0.mk ((by rw [hw]; exact below_set (HB.out) GB43.out : Below w.heap.size w w45)); have HL160 := Aside0.mk (hm_); have HC157 := Aside0.mk ((Kd.R_reads' hm_).2.1); clear HL155_0; clear hg hw hp_ hz_ hm_ hok44)); try go_wp2_with (first | ((with_reducible refine gate_store (t := 3) (p := 97) rfl ?_); (try (rw [drewN_self wr]; generalize hq_ : World.drewN wr _ = wr; replace HO_3 := Aside0.mk (Kd.S_at hq_ HO_3.out); replace HL160 := Aside0.mk (Kd.R_at hq_ HL160.out); replace HB := Aside0.mk (below_at hq_ HB.out); clear hq_; (try (have hq44 : (x5_2 : Int) < (x3_3.length : Int) := (by have h_ : (x5_2 : Int) < ((x3_3.length : Int) : Int) := dT; first | exact h_ | (have e_ := (Kd.S_reads' HO_3.out).1; omega) | simpa only [List.length_set, List.length_set] using h_))); (try (obtain ⟨oki44, ce44, hcl44, hM44, hcc44, hok44, hbk44⟩ := Kd.S_borrow HO_3.out [] (x5_2 : Int) (dT) hq44)); (try (obtain ⟨ve44_0, rfl, ge44_0⟩ := hM44)); (try (have hv44 := hcc44 0 _ rfl)); (try (rw [Nat.add_zero, show ((Kd.slice 3 (Kd.int .i64))).sz = 1 from rfl, Nat.mul_one] at hv44)); (try (replace hv44 := Option.some.inj (hv44.symm.trans HX155_0.out))); (try (subst hv44)); (try (clear hcc44 hcl44)); (try (replace ge44_0 := (show Kd.R (Kd.int .i64) 3 _ _ _ _ (rd_L1 x3_3 x5_2) from ge44_0))); (try (have HP44 := Kd.R_putg ge44_0 (x6_3 : Int) x7_5)))); refine store_event (t := 3) (p := 97) (v := ?vo_w45) (w1 := (wr.setCell ⟨go43, (x6_3 : Int).toNat, none⟩ (.int .i64 x7_5))) ?hg ?ho ?hn ?hr ?_; (case ho => rfl); (case hg => rfl); (case hn => rfl); (case hr => first | (go_simp; done) | (go_simp; rfl)); intro w45 hw; have hg : wr.grownBy w45 (some go43) := (by rw [hw]; exact HP44.2); have hz_ : Kd.R (Kd.int .i64) 3 w45 w.heap.size oki44 (.slice (some ⟨go43, 0, none⟩) (rd_L1 x3_3 x5_2).length c155_0) y156 := (by rw [hw, Ny156.out]; exact HP44.1); have hp_ : Kd.S (Kd.slice 3 (Kd.int .i64)) 33 w45 w.heap.size (fun _ => True) (.slice (some ad145) x3_3.length co16) y158 := (by rw [Ny158.out]; exact hbk44 hg (fun k_ e_ => by injection e_ with e_; subst e_; exact ge44_0.1 _ rfl) (Kd.M_row hz_)); have hm_ := Kd.R_mono hz_ hok44; clear HP44 hbk44; replace HO_3 := Aside0.mk (hp_); replace HB := Aside0.mk ((by rw [hw]; exact below_set (HB.out) GB43.out : Below w.heap.size w w45)); have HL160 := Aside0.mk (hm_); have HC157 := Aside0.mk ((Kd.R_reads' hm_).2.1); clear HL155_0; clear hg hw hp_ hz_ hm_ hok44)))
                      (try simp only [← hl3_3])
                      go_roundg k5
                      case measure => have := HK1.out; have := HK2.out; have := HK3.out; have := HK4.out; have := HK5.out; omega
                      case rel => exact ⟨(y158), (wrap64 (x6_3 + 1)), eS, H', ⟨by have := HK1.out; have := HK2.out; have := HK3.out; have := HK4.out; have := HK5.out; omega⟩, ⟨by (try simp only [hl3_2]); (try simp only [hl3_3]); (with_reducible repeat (first | apply Kd.S_alloc | apply Kd.S_drewN | apply Kd.S_drew)); exact HO_3.out⟩, ⟨bP HB⟩⟩
                     ·rw [if_neg c42] at H
                      exact absurd H (by simp)
                    ·rw [if_neg c41] at H
                     exact absurd H (by simp)
                   ·rw [if_neg c40] at H
                    exact absurd H (by simp)
                  ·rw [if_neg c39] at H
                   exact absurd H (by simp)
           ·rw [if_neg c20] at H
            have c20b0 : decide (x6_3 ≤ (wrap64 (2 * a0))) = false := decide_eq_false c20
            clear c20
            have H' := Aside0.mk H
            clear H
            go_wp2
            repeat (go_quiet (fail); try go_wp2)
            (try simp only [← hl3_2, ← hl3_3])
            go_roundg k3
            case measure => have := HK1.out; have := HK2.out; have := HK3.out; omega
            case rel => exact ⟨(x3_3), (wrap64 (x5_2 + 1)), eS, H', ⟨by have := HK1.out; have := HK2.out; have := HK3.out; omega⟩, ⟨by (try simp only [hl3_2]); (try simp only [hl3_3]); (with_reducible repeat (first | apply Kd.S_alloc | apply Kd.S_drewN | apply Kd.S_drew)); exact HO_3.out⟩, ⟨bP HB⟩⟩
        ·rw [if_neg c19] at H
         have c19b0 : decide (x5_2 ≤ a0) = false := decide_eq_false c19
         clear c19
         obtain rfl := Option.some.inj H
         go_wp2
         repeat (go_quiet (fail); try go_wp2)
         go_ret
         exact ⟨_, eR, by (with_reducible repeat (first | apply Kd.S_alloc | apply Kd.S_drewN | apply Kd.S_drew)); exact HO_3.out, bP HB⟩
     ·rw [if_neg c14] at H
      exact absurd H (by simp)
    ·rw [if_neg c13] at H
     exact absurd H (by simp)

end Go.Proofs.Ytcclnblabaoofaa.F
