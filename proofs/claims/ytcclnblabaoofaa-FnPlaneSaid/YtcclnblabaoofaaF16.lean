/- Contracts: what these Go functions return. -/
import Derived.Test.YtcclnblabaoofaaF0
import Derived.Test.YtcclnblabaoofaaF8
import Derived.Test.YtcclnblabaoofaaF10
import Derived.Test.YtcclnblabaoofaaF15
namespace Go.Proofs.Ytcclnblabaoofaa.F
open Go.RowKit Go.Proofs.YtcclnblabaoofaaW.PrintWords Go.Proofs.YtcclnblabaoofaaW.PrintLast Go.Proofs.YtcclnblabaoofaaW.PrintMore
attribute [local go_sem] max2_int min2_int max_two min_two max_three min_three max_four min_four
set_option linter.unusedVariables false
set_option linter.unusedSimpArgs false

/-! ### laws_FnPlane: function 9 -/
mutual
def laws_FnPlane.j0 : Nat → Int → Int → Int → Bool → Option (Bool)
 | 0, _, _, _, _ => none
 | k + 1, x3, x4, x5, x24 => if x24 = true then (some (x4 == x5)) else (laws_FnPlane.l0 k x3 x4 0 0)
def laws_FnPlane.l0 : Nat → Int → Int → Int → Int → Option (Bool)
 | 0, _, _, _, _ => none
 | k + 1, x3, x4, x6, x7 => if x7 ≤ 18 then ((impl_RootedFace.f x3 x7).bind fun t231 => (laws_FnPlane.l0 k x3 x4 (wrap64 (x6 + t231)) (wrap64 (x7 + 1)))) else ((impl_RootedPlane.f k (wrap64 (x3 + 1))).bind fun t232 => (if x6 = x4 then (if x3 = 9 then (if t232 = (-1) then (some true) else (some ((wrap64 (t232 * (wrap64 (x3 + 3)))) == (wrap64 ((wrap64 (6 * (wrap64 ((wrap64 (2 * x3)) + 1)))) * x4))))) else (some ((wrap64 (t232 * (wrap64 (x3 + 3)))) == (wrap64 ((wrap64 (6 * (wrap64 ((wrap64 (2 * x3)) + 1)))) * x4))))) else (some false)))
end
def laws_FnPlane.f (k : Nat) (l0 : List Int) : Option (Bool) := if (l0.length : Int) > 1048576 then (some true) else ((spec_DrawRootedPlane.f k l0).bind fun t228 => ((impl_RootedPlane.f k t228).bind fun t229 => ((spec_RootedPlane.f k t228).bind fun t230 => (if t229 = t230 then (laws_FnPlane.j0 k t228 t229 t230 (decide (t229 < 0))) else (laws_FnPlane.j0 k t228 t229 t230 true)))))
theorem laws_FnPlane.mono_l : ∀ k, (∀ y0 y1 y2 y3, LeO (laws_FnPlane.j0 k y0 y1 y2 y3) (laws_FnPlane.j0 (k + 1) y0 y1 y2 y3)) ∧ (∀ y0 y1 y2 y3, LeO (laws_FnPlane.l0 k y0 y1 y2 y3) (laws_FnPlane.l0 (k + 1) y0 y1 y2 y3))
 | 0 => ⟨fun _ _ _ _ r h => by simp [laws_FnPlane.j0] at h, fun _ _ _ _ r h => by simp [laws_FnPlane.l0] at h⟩
 | k + 1 => by
  obtain ⟨ih0, ih1⟩ := laws_FnPlane.mono_l k
  refine ⟨?_, ?_⟩
  ·intro y0 y1 y2 y3
   unfold laws_FnPlane.j0
   repeat' first
   | (with_reducible exact ih0 _ _ _ _)
   | (with_reducible exact ih1 _ _ _ _)
   | (with_reducible exact impl_RootedPlane.mono _ _)
   | (with_reducible exact spec_DrawRootedPlane.mono _ _)
   | (with_reducible exact spec_RootedPlane.mono _ _)
   | (with_reducible exact LeO.refl _)
   | (with_reducible exact LeO.none _)
   | (with_reducible refine LeO.ite ?_ ?_)
   | (with_reducible refine LeO.bind ?_ (fun _ => ?_))
   | exact ih0 _ _ _ _
   | exact ih1 _ _ _ _
   | exact impl_RootedPlane.mono _ _
   | exact spec_DrawRootedPlane.mono _ _
   | exact spec_RootedPlane.mono _ _
   | exact LeO.none _
   | refine LeO.ite ?_ ?_
   | refine LeO.bind ?_ (fun _ => ?_)
  ·intro y0 y1 y2 y3
   unfold laws_FnPlane.l0
   repeat' first
   | (with_reducible exact ih0 _ _ _ _)
   | (with_reducible exact ih1 _ _ _ _)
   | (with_reducible exact impl_RootedPlane.mono _ _)
   | (with_reducible exact spec_DrawRootedPlane.mono _ _)
   | (with_reducible exact spec_RootedPlane.mono _ _)
   | (with_reducible exact LeO.refl _)
   | (with_reducible exact LeO.none _)
   | (with_reducible refine LeO.ite ?_ ?_)
   | (with_reducible refine LeO.bind ?_ (fun _ => ?_))
   | exact ih0 _ _ _ _
   | exact ih1 _ _ _ _
   | exact impl_RootedPlane.mono _ _
   | exact spec_DrawRootedPlane.mono _ _
   | exact spec_RootedPlane.mono _ _
   | exact LeO.none _
   | refine LeO.ite ?_ ?_
   | refine LeO.bind ?_ (fun _ => ?_)
theorem laws_FnPlane.mono : ∀ a0 k, LeO (laws_FnPlane.f k a0) (laws_FnPlane.f (k + 1) a0) := by
 intro a0 k
 obtain ⟨ih0, ih1⟩ := laws_FnPlane.mono_l k
 unfold laws_FnPlane.f
 repeat' first
  | (with_reducible exact ih0 _ _ _ _)
  | (with_reducible exact ih1 _ _ _ _)
  | (with_reducible exact impl_RootedPlane.mono _ _)
  | (with_reducible exact spec_DrawRootedPlane.mono _ _)
  | (with_reducible exact spec_RootedPlane.mono _ _)
  | (with_reducible exact LeO.refl _)
  | (with_reducible exact LeO.none _)
  | (with_reducible refine LeO.ite ?_ ?_)
  | (with_reducible refine LeO.bind ?_ (fun _ => ?_))
  | exact ih0 _ _ _ _
  | exact ih1 _ _ _ _
  | exact impl_RootedPlane.mono _ _
  | exact spec_DrawRootedPlane.mono _ _
  | exact spec_RootedPlane.mono _ _
  | exact LeO.none _
  | refine LeO.ite ?_ ?_
  | refine LeO.bind ?_ (fun _ => ?_)
set_option maxHeartbeats 8000000 in
set_option maxRecDepth 100000 in
theorem laws_FnPlane.calls (k : Nat) (A0 : Option Addr) (c0 : Nat) (l0 : List Int) (r : Bool) (w : World) (hr0 : Kd.C (Kd.int .u8) w A0 l0.length l0) (hc0 : l0.length ≤ c0) (hr_ : Aside0 (r = true)) (h : laws_FnPlane.f k l0 = some r) :
 Calls Try.prog 9 #[.slice A0 l0.length c0] w fun e w' => e = .returned (.bool r) ∧ Below w.heap.size w w' := by
 have HR0 := Aside0.mk hr0
 have HC0 := Aside0.mk hc0
 clear hr0 hc0
 have HB := Aside0.mk (Below.refl w.heap.size w)
 have H : (if (l0.length : Int) > 1048576 then (some true) else ((spec_DrawRootedPlane.f k l0).bind fun t228 => ((impl_RootedPlane.f k t228).bind fun t229 => ((spec_RootedPlane.f k t228).bind fun t230 => (if t229 = t230 then (laws_FnPlane.j0 k t228 t229 t230 (decide (t229 < 0))) else (laws_FnPlane.j0 k t228 t229 t230 true)))))) = some r := h
 clear h
 by_cases c2 : (l0.length : Int) > 1048576
 ·rw [if_pos c2] at H
  have c2b0 : decide (1048576 < (l0.length : Int)) = true := decide_eq_true c2
  have c2b1 : decide (1048576 < l0.length) = true := decide_eq_true (by omega)
  clear c2
  obtain rfl := Option.some.inj H
  go_enter Try.func9, Try.ntmps9
  go_wp2
  go_ret
  exact ⟨eR, bP HB⟩
 ·rw [if_neg c2] at H
  have c2b0 : decide (1048576 < (l0.length : Int)) = false := decide_eq_false c2
  have c2b1 : decide (1048576 < l0.length) = false := decide_eq_false (by omega)
  clear c2
  replace H := Option.bind_eq_some_iff.mp H
  obtain ⟨t228, A30, H⟩ := H
  replace H : ((impl_RootedPlane.f k t228).bind fun t229 => ((spec_RootedPlane.f k t228).bind fun t230 => (if t229 = t230 then (laws_FnPlane.j0 k t228 t229 t230 (decide (t229 < 0))) else (laws_FnPlane.j0 k t228 t229 t230 true)))) = some r := H
  have A3 := Aside0.mk A30
  clear A30
  replace H := Option.bind_eq_some_iff.mp H
  obtain ⟨t229, A40, H⟩ := H
  replace H : ((spec_RootedPlane.f k t228).bind fun t230 => (if t229 = t230 then (laws_FnPlane.j0 k t228 t229 t230 (decide (t229 < 0))) else (laws_FnPlane.j0 k t228 t229 t230 true))) = some r := H
  have A4 := Aside0.mk A40
  clear A40
  replace H := Option.bind_eq_some_iff.mp H
  obtain ⟨t230, A50, H⟩ := H
  replace H : (if t229 = t230 then (laws_FnPlane.j0 k t228 t229 t230 (decide (t229 < 0))) else (laws_FnPlane.j0 k t228 t229 t230 true)) = some r := H
  have A5 := Aside0.mk A50
  clear A50
  have HC6 := Aside0.mk H
  clear H
  go_enter Try.func9, Try.ntmps9
  go_upto_region 6 with (first | ((with_reducible refine gate_callee (f := 21) rfl ?_); refine gL (some 13) Try.func21 #[.slice A0 l0.length c0] ?_; (with_reducible refine (spec_DrawRootedPlane.calls k _ _ l0 t228 _ ?side1 ?side2 A3.out).mono ?_); (case side1 => repeat (first | exact HR0.out | (with_reducible refine Kd.C_alloc ?_ _) | (with_reducible refine Kd.C_drewN ?_ _) | (with_reducible refine Kd.C_drew ?_))); (case side2 => exact HC0.out); rintro e w7 ⟨rfl, hb⟩; refine ⟨_, rfl, ?_⟩; replace HB := bS HB hb; (try clear hb); (try clear hb2); (try clear hk); (try clear hi)) | ((with_reducible refine gate_callee (f := 15) rfl ?_); refine gL (some 15) Try.func15 #[.int .i64 t228] ?_; (with_reducible refine (impl_RootedPlane.calls k t228 t229 _ A4.out).mono ?_); rintro e w' ⟨rfl, ⟨nd, rfl⟩⟩; refine ⟨_, rfl, ?_⟩) | ((with_reducible refine gate_callee (f := 14) rfl ?_); refine gL (some 17) Try.func14 #[.int .i64 t228] ?_; (with_reducible refine (spec_RootedPlane.calls k t228 t230 _ A5.out).mono ?_); rintro e w' ⟨rfl, ⟨nd, rfl⟩⟩; refine ⟨_, rfl, ?_⟩))
  (try simp only [Act.put, List.setIfInBounds_toArray, List.set_cons_zero, List.set_cons_succ])
  go_cut [24] (fun v24 wc => ∃ (kq : Nat) (x24_5 : Bool), v24 = .bool x24_5 ∧ Aside0 (laws_FnPlane.j0 kq t228 t229 t230 x24_5 = some r) ∧ Aside0 (kq ≤ k) ∧ Aside0 (Below w.heap.size w wc))
  case first =>
   have H := HC6.out
   clear HC6
   by_cases c8 : t229 = t230
   ·rw [if_pos c8] at H
    have c8b0 : (t229 == t230) = true := beq_iff_eq.mpr c8
    have c8b1 : (t229 != t230) = false := bne_eq_false_iff_eq.mpr c8
    clear c8
    (first | rw [c8b0] | (simp only [i64_w, i32_w]; rw [c8b0]) | skip)
    have H' := Aside0.mk H
    clear H
    go_wp2
    go_meet
    case rel => exact ⟨_, (decide (t229 < 0)), eS, H', ⟨by first | omega | exact Nat.le_refl _⟩, ⟨bP HB⟩⟩
   ·rw [if_neg c8] at H
    have c8b0 : (t229 == t230) = false := beq_eq_false_iff_ne.mpr c8
    have c8b1 : (t229 != t230) = true := bne_iff_ne.mpr c8
    (first | rw [c8b0] | (simp only [i64_w, i32_w]; rw [c8b0]) | skip)
    have H' := Aside0.mk H
    clear H
    go_wp2
    go_meet
    case rel => exact ⟨_, (true), eS, H', ⟨by first | omega | exact Nat.le_refl _⟩, ⟨bP HB⟩⟩
  case rest =>
   clear HC6
   try clear c1
   try clear c2
   try clear c2b0
   try clear c2b1
   try clear p2
   try clear c8
   try clear c8b0
   try clear c8b1
   obtain ⟨kq, x24_5, rfl, HA, HJ5, HB⟩ := hcut
   cases kq with
   | zero => exact absurd HA.out (by simp [laws_FnPlane.j0])
   | succ kj5 =>
    have H := HA.out
    clear HA
    simp only [laws_FnPlane.j0] at H
    by_cases c9 : x24_5 = true
    ·subst c9
     have H1 : (some (t229 == t230)) = some r := by rw [if_pos rfl] at H; exact H
     clear H
     have H := H1
     clear H1
     obtain rfl := Option.some.inj H
     go_wp2
     go_ret
     exact ⟨eR, bP HB⟩
    ·replace c9 := Bool.eq_false_iff.mpr c9
     subst c9
     have H1 : (laws_FnPlane.l0 kj5 t228 t229 0 0) = some r := by rw [if_neg (show ¬ (false = true) by decide)] at H; exact H
     clear H
     have H := H1
     clear H1
     have H' := Aside0.mk H
     clear H
     go_wp2
     go_loopg [6, 7] kj5 (fun kq v6 v7 w' => ∃ (x6_2 : Int) (x7_2 : Int), v6 = .int .i64 x6_2 ∧ v7 = .int .i64 x7_2 ∧ Aside0 (laws_FnPlane.l0 kq t228 t229 x6_2 x7_2 = some r) ∧ Aside0 (kq ≤ kj5) ∧ Aside0 (Below w.heap.size w w'))
     case atStart => exact ⟨(0), (0), eS, eS, H', ⟨Nat.le_refl _⟩, ⟨bP HB⟩⟩
     case round =>
      clear H'
      try clear c1
      try clear c2
      try clear c2b0
      try clear c2b1
      try clear p2
      try clear c8
      try clear c8b0
      try clear c8b1
      try clear c9
      try clear p2
      obtain ⟨x6_2, x7_2, rfl, rfl, HA, HK2, HB⟩ := hrel
      cases gk with
      | zero => exact absurd HA.out (by simp [laws_FnPlane.l0])
      | succ k2 =>
       have H := HA.out
       clear HA
       simp only [laws_FnPlane.l0] at H
       by_cases c10 : x7_2 ≤ 18
       ·rw [if_pos c10] at H
        have c10b0 : decide (x7_2 ≤ 18) = true := decide_eq_true c10
        clear c10
        replace H := Option.bind_eq_some_iff.mp H
        obtain ⟨t231, A110, H⟩ := H
        replace H : (laws_FnPlane.l0 k2 t228 t229 (wrap64 (x6_2 + t231)) (wrap64 (x7_2 + 1))) = some r := H
        have A11 := Aside0.mk A110
        clear A110
        have H' := Aside0.mk H
        clear H
        go_wp2_with (first | ((with_reducible refine gate_callee (f := 19) rfl ?_); refine gL (some 35) Try.func19 #[.int .i64 t228, .int .i64 x7_2] ?_; (with_reducible refine (impl_RootedFace.calls t228 x7_2 t231 _ A11.out).mono ?_); rintro e w12 ⟨rfl, hb⟩; refine ⟨_, rfl, ?_⟩; replace HB := bS HB hb; (try clear hb); (try clear hb2); (try clear hk); (try clear hi)))
        go_roundg k2
        case measure => have := HJ5.out; have := HK2.out; omega
        case rel => exact ⟨(wrap64 (x6_2 + t231)), (wrap64 (x7_2 + 1)), eS, eS, H', ⟨by have := HJ5.out; have := HK2.out; omega⟩, ⟨bP HB⟩⟩
       ·rw [if_neg c10] at H
        have c10b0 : decide (x7_2 ≤ 18) = false := decide_eq_false c10
        clear c10
        replace H := Option.bind_eq_some_iff.mp H
        obtain ⟨t232, A130, H⟩ := H
        replace H : (if x6_2 = t229 then (if t228 = 9 then (if t232 = (-1) then (some true) else (some ((wrap64 (t232 * (wrap64 (t228 + 3)))) == (wrap64 ((wrap64 (6 * (wrap64 ((wrap64 (2 * t228)) + 1)))) * t229))))) else (some ((wrap64 (t232 * (wrap64 (t228 + 3)))) == (wrap64 ((wrap64 (6 * (wrap64 ((wrap64 (2 * t228)) + 1)))) * t229))))) else (some false)) = some r := H
        have A13 := Aside0.mk A130
        clear A130
        by_cases c14 : x6_2 = t229
        ·rw [if_pos c14] at H
         have c14b0 : (x6_2 == t229) = true := beq_iff_eq.mpr c14
         have c14b1 : (x6_2 != t229) = false := bne_eq_false_iff_eq.mpr c14
         clear c14
         by_cases c15 : t228 = 9
         ·rw [if_pos c15] at H
          have c15b0 : (t228 == 9) = true := beq_iff_eq.mpr c15
          have c15b1 : (t228 != 9) = false := bne_eq_false_iff_eq.mpr c15
          clear c15
          by_cases c16 : t232 = (-1)
          ·rw [if_pos c16] at H
           have c16b0 : (t232 == (-1)) = true := beq_iff_eq.mpr c16
           have c16b1 : (t232 != (-1)) = false := bne_eq_false_iff_eq.mpr c16
           clear c16
           obtain rfl := Option.some.inj H
           go_wp2_with (first | ((with_reducible refine gate_callee (f := 15) rfl ?_); refine gL (some 39) Try.func15 #[.int .i64 (wrap64 (t228 + 1))] ?_; (with_reducible refine (impl_RootedPlane.calls k2 (wrap64 (t228 + 1)) t232 _ A13.out).mono ?_); rintro e w' ⟨rfl, ⟨nd, rfl⟩⟩; refine ⟨_, rfl, ?_⟩))
           go_ret
           exact ⟨eR, bP HB⟩
          ·rw [if_neg c16] at H
           have c16b0 : (t232 == (-1)) = false := beq_eq_false_iff_ne.mpr c16
           have c16b1 : (t232 != (-1)) = true := bne_iff_ne.mpr c16
           obtain rfl := Option.some.inj H
           go_wp2_with (first | ((with_reducible refine gate_callee (f := 15) rfl ?_); refine gL (some 39) Try.func15 #[.int .i64 (wrap64 (t228 + 1))] ?_; (with_reducible refine (impl_RootedPlane.calls k2 (wrap64 (t228 + 1)) t232 _ A13.out).mono ?_); rintro e w' ⟨rfl, ⟨nd, rfl⟩⟩; refine ⟨_, rfl, ?_⟩))
           go_ret
           exact ⟨eR, bP HB⟩
         ·rw [if_neg c15] at H
          have c15b0 : (t228 == 9) = false := beq_eq_false_iff_ne.mpr c15
          have c15b1 : (t228 != 9) = true := bne_iff_ne.mpr c15
          obtain rfl := Option.some.inj H
          go_wp2_with (first | ((with_reducible refine gate_callee (f := 15) rfl ?_); refine gL (some 39) Try.func15 #[.int .i64 (wrap64 (t228 + 1))] ?_; (with_reducible refine (impl_RootedPlane.calls k2 (wrap64 (t228 + 1)) t232 _ A13.out).mono ?_); rintro e w' ⟨rfl, ⟨nd, rfl⟩⟩; refine ⟨_, rfl, ?_⟩))
          go_ret
          exact ⟨eR, bP HB⟩
        ·rw [if_neg c14] at H
         have c14b0 : (x6_2 == t229) = false := beq_eq_false_iff_ne.mpr c14
         have c14b1 : (x6_2 != t229) = true := bne_iff_ne.mpr c14
         exact absurd ((Option.some.inj H).trans hr_.out) (by decide)

/-- THE ONE PURE STATEMENT of laws_FnPlane: yours. -/
def laws_FnPlane.Pure : Prop := ∀ (l0 : List Int), l0.length ≤ maxLen → l0.length * 1 ≤ 140737488351232 → (∀ x ∈ l0, (Lit.int .u8 x).wf = true) → ∃ k, laws_FnPlane.f k l0 = some true
theorem laws_FnPlane.walk (P : laws_FnPlane.Pure) (a0 : Option Addr) (len0 cap0 : Nat) (z0 : List Int) (w : World) (w0 : (a0 = none ∧ len0 = 0 ∧ cap0 = 0 ∧ z0 = []) ∨ ∃ x, a0 = some x ∧ len0 ≤ cap0 ∧ cap0 ≤ maxLen ∧ z0.length = cap0 ∧ (∀ i, i < z0.length → w.cell? (x.add i) = some (.int .u8 (z0.getD i 0))) ∧ ∀ n ∈ z0, (Lit.int .u8 n).wf = true) (y0 : len0 * 1 ≤ 140737488351232) :
 Calls Try.prog 9 #[.slice a0 len0 cap0] w fun e w' => e = .returned (.bool true) ∧ Below w.heap.size w w' := by
 obtain ⟨l0, rfl, hr0, hm0, hw0, hc0⟩ := ReadsInt.ofRowC w0
 obtain ⟨k, h⟩ := P l0 hm0 y0 hw0
 refine (laws_FnPlane.calls k _ _ l0 true w (Kd.C_of_reads (d := (0 : Int)) (h1 := fun _ => rfl) hr0) hc0 ⟨rfl⟩ h).mono ?_
 rintro e w' ⟨rfl, hd⟩
 exact ⟨rfl, hd⟩

end Go.Proofs.Ytcclnblabaoofaa.F
