/- Contracts: what these Go functions return. -/
import Derived.Test.YtihabnfccgjfbaaF0
import Derived.Test.YtihabnfccgjfbaaF3
import Derived.Test.YtihabnfccgjfbaaF4
import Derived.Test.YtihabnfccgjfbaaF5
import Derived.Test.YtihabnfccgjfbaaF6
namespace Go.Proofs.Ytihabnfccgjfbaa.F
open Go.RowKit Go.Proofs.YtihabnfccgjfbaaW.PrintWords Go.Proofs.YtihabnfccgjfbaaW.PrintLast Go.Proofs.YtihabnfccgjfbaaW.PrintMore
attribute [local go_sem] max2_int min2_int max_two min_two max_three min_three max_four min_four
set_option linter.unusedVariables false
set_option linter.unusedSimpArgs false

/-! ### spec_l91Map: function 36 -/
mutual
def spec_l91Map.l0 : Nat → Int → List Int → List Int → Int → List Int → Int → Option (List Int × List Int × Int)
 | 0, _, _, _, _, _, _ => none
 | k + 1, x5, x6, x7, x8, x1000, x1001 => if (wrap64 (x8 + 1)) < x5 then (if 0 ≤ x8 then (if x8 < (x6.length : Int) then (if 0 ≤ (wrap64 (x8 + 1)) then (if (wrap64 (x8 + 1)) < (x6.length : Int) then (if 0 ≤ (rd x6 x8) then (if (rd x6 x8) < (x7.length : Int) then (if 0 ≤ (rd x6 (wrap64 (x8 + 1))) then (if (rd x6 (wrap64 (x8 + 1))) < (x7.length : Int) then (spec_l91Map.l0 k x5 x6 ((x7.set ((rd x6 x8) : Int).toNat (rd x6 (wrap64 (x8 + 1)))).set ((rd x6 (wrap64 (x8 + 1))) : Int).toNat (rd x6 x8)) (wrap64 (x8 + 2)) x1000 x1001) else (none)) else (none)) else (none)) else (none)) else (none)) else (none)) else (none)) else (none)) else ((spec_l91Perm.f k x1000 x1001 x5).bind fun bt168 => (spec_l91Map.l1 k x5 0 x1000 bt168.2 bt168.1 x7))
def spec_l91Map.l1 : Nat → Int → Int → List Int → Int → List Int → List Int → Option (List Int × List Int × Int)
 | 0, _, _, _, _, _, _ => none
 | k + 1, x5, x10, x1000, x1001, x173000, x173001 => if x10 < x5 then ((spec_MapValid.f k x173000 x173001).bind fun t173 => (spec_l91Map.j2 k x5 x10 (!t173) x1000 x1001 x173000 x173001)) else (spec_l91Map.j2 k x5 x10 false x1000 x1001 x173000 x173001)
def spec_l91Map.j2 : Nat → Int → Int → Bool → List Int → Int → List Int → List Int → Option (List Int × List Int × Int)
 | 0, _, _, _, _, _, _, _ => none
 | k + 1, x5, x10, x64, x1000, x1001, x173000, x173001 => if x64 = true then ((spec_l1Orbits.f k x173000 x173001).bind fun t174 => (spec_l91Map.l2 k x5 x10 t174 0 x1000 x1001 x173000 x173001)) else ((spec_l6Rd_pick.f k x1000 x1001 50).bind fun bt182 => (if bt182.1 = 0 then (if 0 < (x173001.length : Int) then (some (x173000, (x173001.set (0 : Int).toNat 0), bt182.2)) else (none)) else (if bt182.1 = 1 then (if 1 ≤ (x173000.length : Int) then (some ((x173000.drop (1 : Int).toNat), x173001, bt182.2)) else (none)) else (if bt182.1 = 2 then (if 0 < (x173000.length : Int) then (some ((x173000.set (0 : Int).toNat x5), x173001, bt182.2)) else (none)) else (some (x173000, x173001, bt182.2))))))
def spec_l91Map.l2 : Nat → Int → Int → List Int → Int → List Int → Int → List Int → List Int → Option (List Int × List Int × Int)
 | 0, _, _, _, _, _, _, _, _ => none
 | k + 1, x5, x10, x11, x12, x1000, x1001, x173000, x173001 => if 0 ≤ x12 then (if x12 < (x11.length : Int) then (if (rd x11 x12) = 0 then (spec_l91Map.l2 k x5 x10 x11 (wrap64 (x12 + 1)) x1000 x1001 x173000 x173001) else (if 0 < (x173000.length : Int) then (if x12 < (x173000.length : Int) then (spec_l91Map.l1 k x5 (wrap64 (x10 + 1)) x1000 x1001 ((x173000.set (0 : Int).toNat (rd x173000 x12)).set (x12 : Int).toNat (rd x173000 0)) x173001) else (none)) else (none))) else (none)) else (none)
end
def spec_l91Map.f (k : Nat) (s0_0 : List Int) (s0_1 : Int) (a1 : Int) : Option (List Int × List Int × Int) := (spec_l6Rd_pick.f k s0_0 s0_1 a1).bind fun bt153 => ((spec_l91Perm.f k s0_0 bt153.2 (wrap64 (2 * (wrap64 (1 + bt153.1))))).bind fun bt155 => (if 0 ≤ (wrap64 (2 * (wrap64 (1 + bt153.1)))) then (if (wrap64 (2 * (wrap64 (1 + bt153.1))) : Int).toNat ≤ 35184372088832 then (spec_l91Map.l0 k (wrap64 (2 * (wrap64 (1 + bt153.1)))) bt155.1 (List.replicate (wrap64 (2 * (wrap64 (1 + bt153.1))) : Int).toNat 0) 0 s0_0 bt155.2) else (none)) else (none)))
def spec_l91Map.T7 : Bool × List (List Nat × List Nat) := (true, [([], []), ([], []), ([], []), ([1, 2], [1, 2]), ([3], [3]), ([], []), ([], []), ([6], [6]), ([5, 7], [5, 7]), ([8], [8]), ([0, 4, 0, 1, 2, 3, 4, 5, 6, 7, 8, 9], [0, 4]), ([10, 9, 0, 1, 2, 3, 4, 5, 6, 7, 8, 9], [9, 10])])
def spec_l91Map.B7 : List Nat := [0, 0, 0, 6, 14, 0, 0, 64, 224, 480, 1023, 2047]
theorem spec_l91Map.tab7 : rtab .any (opsOf Try.f36 7) = spec_l91Map.T7 := by kernel_rfl
theorem spec_l91Map.bits7 : waitsOk spec_l91Map.T7.2 spec_l91Map.B7 = true := by kernel_rfl
def spec_l91Map.T8 : Bool × List (List Nat × List Nat) := (true, [([], []), ([], []), ([], []), ([2], [2]), ([1, 3], [1, 3]), ([4], [4]), ([], []), ([], []), ([6, 7], [6, 7]), ([8], [8]), ([0, 5, 0, 1, 2, 3, 4, 5, 6, 7, 8, 9], [0, 5]), ([10, 9, 0, 1, 2, 3, 4, 5, 6, 7, 8, 9], [9, 10])])
def spec_l91Map.B8 : List Nat := [0, 0, 0, 4, 14, 30, 0, 0, 192, 448, 1023, 2047]
theorem spec_l91Map.tab8 : rtab .any (opsOf Try.f36 8) = spec_l91Map.T8 := by kernel_rfl
theorem spec_l91Map.bits8 : waitsOk spec_l91Map.T8.2 spec_l91Map.B8 = true := by kernel_rfl
def spec_l91Map.T18 : Bool × List (List Nat × List Nat) := (true, [([], []), ([0], [0]), ([], []), ([2], [2]), ([], []), ([3, 4], [3, 4]), ([5], [5]), ([1, 0, 1, 2, 3, 4, 5, 6], [1]), ([7, 6, 0, 1, 2, 3, 4, 5, 6], [6, 7])])
def spec_l91Map.B18 : List Nat := [0, 1, 0, 4, 0, 28, 60, 127, 255]
theorem spec_l91Map.tab18 : rtab .any (opsOf Try.f36 18) = spec_l91Map.T18 := by kernel_rfl
theorem spec_l91Map.bits18 : waitsOk spec_l91Map.T18.2 spec_l91Map.B18 = true := by kernel_rfl
set_option maxHeartbeats 8000000 in
set_option maxRecDepth 100000 in
theorem spec_l91Map.calls (k : Nat) (g : Nat) (s0_0 : List Int) (s0_1 : Int) (a1 : Int) (r1 : List Int) (r2 : List Int) (r3 : Int) (w0 w : World) (hI : IsS70 w0 w g s0_0 s0_1) (hB : Below w0.heap.size w0 w) (h : spec_l91Map.f k s0_0 s0_1 a1 = some (r1, r2, r3)) :
 Calls Try.prog 36 #[.pointer (some ⟨g, 0, none⟩), .int .i64 a1] w fun e w' => ∃ v0_ v1_ : Value, e = .returned (.agg #[v0_, v1_]) ∧ Kd.Q (Kd.int .i64) 3 w' w.heap.size (fun k_ => some k_ ≠ (v1_ : Value).ownBlock) v0_ r1 ∧ Kd.R (Kd.int .i64) 3 w' w.heap.size (fun k_ => some k_ ≠ (v0_ : Value).ownBlock) v1_ r2 ∧ IsS70 w0 w' g s0_0 r3 ∧ Below w0.heap.size w0 w' ∧ KeepBut w w' g none := by
 have hu25 := Try.underlying25
 have HI0 := Aside0.mk hI
 have HK := Aside0.mk (KeepBut.refl w g none)
 have HL := Aside0.mk hB.size
 clear hI
 have HW0 := Aside0.mk hB.size
 have HB := Aside0.mk hB
 clear hB
 have H : ((spec_l6Rd_pick.f k s0_0 s0_1 a1).bind fun bt153 => ((spec_l91Perm.f k s0_0 bt153.2 (wrap64 (2 * (wrap64 (1 + bt153.1))))).bind fun bt155 => (if 0 ≤ (wrap64 (2 * (wrap64 (1 + bt153.1)))) then (if (wrap64 (2 * (wrap64 (1 + bt153.1))) : Int).toNat ≤ 35184372088832 then (spec_l91Map.l0 k (wrap64 (2 * (wrap64 (1 + bt153.1)))) bt155.1 (List.replicate (wrap64 (2 * (wrap64 (1 + bt153.1))) : Int).toNat 0) 0 s0_0 bt155.2) else (none)) else (none)))) = some (r1, r2, r3) := h
 clear h
 replace H := Option.bind_eq_some_iff.mp H
 obtain ⟨⟨t153, t154⟩, A30, H⟩ := H
 replace H : ((spec_l91Perm.f k s0_0 t154 (wrap64 (2 * (wrap64 (1 + t153))))).bind fun bt155 => (if 0 ≤ (wrap64 (2 * (wrap64 (1 + t153)))) then (if (wrap64 (2 * (wrap64 (1 + t153))) : Int).toNat ≤ 35184372088832 then (spec_l91Map.l0 k (wrap64 (2 * (wrap64 (1 + t153)))) bt155.1 (List.replicate (wrap64 (2 * (wrap64 (1 + t153))) : Int).toNat 0) 0 s0_0 bt155.2) else (none)) else (none))) = some (r1, r2, r3) := H
 have A3 := Aside0.mk A30
 clear A30
 replace H := Option.bind_eq_some_iff.mp H
 obtain ⟨⟨t155, t158⟩, A40, H⟩ := H
 replace H : (if 0 ≤ (wrap64 (2 * (wrap64 (1 + t153)))) then (if (wrap64 (2 * (wrap64 (1 + t153))) : Int).toNat ≤ 35184372088832 then (spec_l91Map.l0 k (wrap64 (2 * (wrap64 (1 + t153)))) t155 (List.replicate (wrap64 (2 * (wrap64 (1 + t153))) : Int).toNat 0) 0 s0_0 t158) else (none)) else (none)) = some (r1, r2, r3) := H
 have A4 := Aside0.mk A40
 clear A40
 obtain ⟨ji5, hji5⟩ : ∃ j_ : Int, (wrap64 (2 * (wrap64 (1 + t153)))) = j_ := ⟨_, rfl⟩
 replace H : (if 0 ≤ (ji5) then (if (ji5 : Int).toNat ≤ 35184372088832 then (spec_l91Map.l0 k ji5 t155 (List.replicate (ji5 : Int).toNat 0) 0 s0_0 t158) else (none)) else (none)) = some (r1, r2, r3) := by first | (rw [hji5] at H; exact H) | (simp only [hji5] at H ⊢; exact H)
 (try rw [hji5] at A3)
 (try rw [hji5] at A4)
 have hji5w : (IntKind.i64.wrap (2 * (wrap64 (1 + t153)))) = ji5 := (i64_w _).trans hji5
 by_cases c6 : 0 ≤ (ji5)
 ·rw [if_pos c6] at H
  have c6b0 := eq_true c6
  have c6b1 : decide (0 ≤ (ji5)) = true := decide_eq_true c6
  clear c6
  by_cases c7 : (ji5 : Int).toNat ≤ 35184372088832
  ·rw [if_pos c7] at H
   have c7b0 := eq_true c7
   have c7b1 : decide ((ji5 : Int).toNat ≤ 35184372088832) = true := decide_eq_true c7
   clear c7
   obtain ⟨y159, hy159⟩ : ∃ y_ : List Int, y_ = (List.replicate (ji5 : Int).toNat 0) := ⟨_, rfl⟩
   replace H : (spec_l91Map.l0 k ji5 t155 y159 0 s0_0 t158) = some (r1, r2, r3) := by first | (rw [hy159]; with_reducible exact H) | (have H2_ := (Option.bind_some _ _).symm.trans H; rw [hy159]; with_reducible exact H2_) | (have H2_ := (Option.bind_some _ _).symm.trans H; with_reducible exact H2_) | with_reducible exact H | (rw [hy159]; exact H) | exact H
   have Ny159 := Aside0.mk hy159
   clear hy159
   have H' := Aside0.mk H
   clear H
   go_enter Try.func36, Try.ntmps36
   go_wp2_with (first | ((with_reducible refine gate_dst (N := 4) rfl ?_); refine bE 4 #[.slice none 0 0, .slice none 0 0] 25 ?_; intro gb152 hg w8 hbox hb; replace HB := Aside0.mk (below_step (by repeat (first | (with_reducible first | exact HB.out | apply below_alloc | apply pw_below_drewN | apply below_drew1 | refine below_set ?_ (IsS70.ge HI0.out)) | exact HB.out)) hb); have BK152 := Aside0.mk (hbox); have GW152 := Aside0.mk ((by rw [hg]; exact (keep_size (w := w) (g := g) (row := none) (by repeat (first | (with_reducible first | exact HK.out | apply KeepBut.set_ | apply keep_drewN | apply keep_drew | apply keep_alloc) | exact HK.out))) : w.heap.size ≤ gb152)); have GE152 := Aside0.mk ((Nat.le_trans HW0.out (by rw [hg]; exact (keep_size (w := w) (g := g) (row := none) (by repeat (first | (with_reducible first | exact HK.out | apply KeepBut.set_ | apply keep_drewN | apply keep_drew | apply keep_alloc) | exact HK.out))) : w.heap.size ≤ gb152) : w0.heap.size ≤ gb152)); replace HK := Aside0.mk (KeepBut.trans (by repeat (first | (with_reducible first | exact HK.out | apply KeepBut.set_ | apply keep_drewN | apply keep_drew | apply keep_alloc) | exact HK.out)) (KeepBut.of_below hb g none) (.inl rfl)); have NB0_152 := Aside0.mk ((by rw [hg]; exact Nat.ne_of_lt (IsS70.lt (show IsS70 w0 _ g s0_0 s0_1 from by repeat (first | (with_reducible first | exact HI0.out | apply IsS70.alloc | apply IsS70.drewN | apply IsS70.drew | apply IsS70.set_1) | exact HI0.out))) : g ≠ gb152)); have NB152_0 := Aside0.mk ((by rw [hg]; exact Nat.ne_of_gt (IsS70.lt (show IsS70 w0 _ g s0_0 s0_1 from by repeat (first | (with_reducible first | exact HI0.out | apply IsS70.alloc | apply IsS70.drewN | apply IsS70.drew | apply IsS70.set_1) | exact HI0.out))) : gb152 ≠ g)); replace HI0 := Aside0.mk (IsS70.below (by repeat (first | (with_reducible first | exact HI0.out | apply IsS70.alloc | apply IsS70.drewN | apply IsS70.drew | apply IsS70.set_1) | exact HI0.out)) hb); clear hb hbox hg) | ((with_reducible refine gate_callee (f := 55) rfl ?_); refine gL (some 16) Try.func55 #[.pointer (some ⟨g, 0, none⟩), .int .i64 a1] ?_; (with_reducible refine (spec_l6Rd_pick.calls k g s0_0 s0_1 a1 t153 t154 w0 _ ?side1 ?side2 A3.out).mono ?_); (case side1 => repeat (first | (with_reducible first | exact HI0.out | apply IsS70.alloc | apply IsS70.drewN | apply IsS70.drew | apply IsS70.set_1 | refine IsS70.far ?_ NB0_152.out _) | exact HI0.out)); (case side2 => repeat (first | (with_reducible first | exact HB.out | apply below_alloc | apply pw_below_drewN | apply below_drew1 | refine below_set ?_ (IsS70.ge HI0.out) | refine below_set ?_ GE152.out) | exact HB.out)); rintro e w9 ⟨rfl, hi, hb, hk⟩; refine ⟨_, rfl, ?_⟩; replace BK152 := Aside0.mk (KeepBut.blk hk (g' := gb152) (o := .cells #[.slice none 0 0, .slice none 0 0] 25 (0, 0)) (kP BK152) NB152_0.out (by simp)); replace HK := Aside0.mk (KeepBut.trans (by repeat (first | (with_reducible first | exact HK.out | apply KeepBut.set_ | apply keep_drewN | apply keep_drew | apply keep_alloc | refine keep_far ?_ GW152.out _) | exact HK.out)) hk (.inl rfl)); replace HB := Aside0.mk (hb); replace HI0 := Aside0.mk (hi); (try clear hb); (try clear hb2); (try clear hk); (try clear hi)) | ((with_reducible refine gate_callee (f := 57) rfl ?_); refine goesL_ (some 21) rfl rfl Try.func57 (by kernel_rfl) rfl #[.pointer (some ⟨g, 0, none⟩), .int .i64 ji5] rfl (by (try simp only [List.map_toArray, List.map_cons, List.map_nil]); first | done | (simp only [hji5]; rfl) | rfl | (simp only [List.length_drop, List.length_take]; rfl)) ?_; (with_reducible refine (spec_l91Perm.calls k g s0_0 t154 ji5 t155 t158 w0 _ ?side1 ?side2 A4.out).mono ?_); (case side1 => repeat (first | (with_reducible first | exact HI0.out | apply IsS70.alloc | apply IsS70.drewN | apply IsS70.drew | apply IsS70.set_1 | refine IsS70.far ?_ NB0_152.out _) | exact HI0.out)); (case side2 => repeat (first | (with_reducible first | exact HB.out | apply below_alloc | apply pw_below_drewN | apply below_drew1 | refine below_set ?_ (IsS70.ge HI0.out) | refine below_set ?_ GE152.out) | exact HB.out)); rintro e w10 ⟨v156, rfl, ho0, hi, hb, hk⟩; refine ⟨_, rfl, ?_⟩; replace BK152 := Aside0.mk (KeepBut.blk hk (g' := gb152) (o := .cells #[.slice none 0 0, .slice none 0 0] 25 (0, 0)) (kP BK152) NB152_0.out (by simp)); have HO157 := Aside0.mk (Kd.R_lower ho0 (keep_size (w := w) (g := g) (row := none) (by repeat (first | (with_reducible first | exact HK.out | apply KeepBut.set_ | apply keep_drewN | apply keep_drew | apply keep_alloc | refine keep_far ?_ GW152.out _) | exact HK.out)))); replace HK := Aside0.mk (KeepBut.trans (by repeat (first | (with_reducible first | exact HK.out | apply KeepBut.set_ | apply keep_drewN | apply keep_drew | apply keep_alloc | refine keep_far ?_ GW152.out _) | exact HK.out)) hk (.inl rfl)); replace HB := Aside0.mk (hb); replace HI0 := Aside0.mk (hi); (try clear hb); (try clear hb2); (try clear hk); (try clear hi); (try clear ho0)) | ((with_reducible refine gate_dst (N := 23) rfl ?_); refine Kd.R_make (Kd.int .i64) _ 3 rfl (N := 23) rfl 23 _ _ rfl ji5 rfl rfl Try.underlying23 (.int .i64 0) 8 info3 rfl (by decide) (by omega) 0 (ok := fun _ => True) (okp := fun _ => True) rfl (fun _ hk => hk) trivial (dT) (Nat.le_trans (Nat.mul_le_mul_right _ (dT : ji5.toNat ≤ 35184372088832)) (by omega)) (Below.refl _ _) (Nat.le_refl _) ?_; intro v160 w11 ho12 hb hg_ hnew_; clear hg_ hnew_; (first | rw [← Ny159.out] at ho12 | (simp only [Int.reduceToNat] at ho12; rw [← Ny159.out] at ho12)); have HO161 := Aside0.mk (Kd.R_lower (Kd.R_new' ho12 (Kd.R_lt (rP HO157))) (keep_size (w := w) (g := g) (row := none) (by repeat (first | (with_reducible first | exact HK.out | apply KeepBut.set_ | apply keep_drewN | apply keep_drew | apply keep_alloc | refine keep_far ?_ GW152.out _) | exact HK.out)))); replace HO157 := Aside0.mk (Kd.R_elder' (rP HO157) (Kd.R_base ho12) hb); replace BK152 := kB BK152 hb; replace HK := Aside0.mk (KeepBut.trans (by repeat (first | (with_reducible first | exact HK.out | apply KeepBut.set_ | apply keep_drewN | apply keep_drew | apply keep_alloc | refine keep_far ?_ GW152.out _) | exact HK.out)) (KeepBut.of_below hb g none) (.inl rfl)); replace HB := Aside0.mk (below_step (by repeat (first | (with_reducible first | exact HB.out | apply below_alloc | apply pw_below_drewN | apply below_drew1 | refine below_set ?_ (IsS70.ge HI0.out) | refine below_set ?_ GE152.out) | exact HB.out)) hb); replace HI0 := Aside0.mk (IsS70.below (by repeat (first | (with_reducible first | exact HI0.out | apply IsS70.alloc | apply IsS70.drewN | apply IsS70.drew | apply IsS70.set_1 | refine IsS70.far ?_ NB0_152.out _) | exact HI0.out)) hb); clear hb ho12))
   go_loopg [8] k (fun kq v8 w' => ∃ (x7_1 : List Int) (x8_1 : Int), v8 = .int .i64 x8_1 ∧ Aside0 (spec_l91Map.l0 kq ji5 t155 x7_1 x8_1 s0_0 t158 = some (r1, r2, r3)) ∧ Aside0 (kq ≤ k) ∧ Aside0 (Kd.R (Kd.int .i64) 3 w' w.heap.size (fun k_ => some k_ ≠ (v160 : Value).ownBlock) v156 t155) ∧ Aside0 (Kd.R (Kd.int .i64) 3 w' w.heap.size (fun k_ => some k_ ≠ (v156 : Value).ownBlock) v160 x7_1) ∧ Aside0 (w'.heap[gb152]? = some (.cells #[(.slice none 0 0), (.slice none 0 0)] 25 (0, 0))) ∧ Aside0 (IsS70 w0 w' g s0_0 t158) ∧ Aside0 (KeepBut w w' g none) ∧ Aside0 (Below w0.heap.size w0 w'))
   case atStart => exact ⟨(y159), (0), eS, H', ⟨Nat.le_refl _⟩, ⟨by (with_reducible repeat (first | apply Kd.R_alloc | apply Kd.R_drewN | apply Kd.R_drew)); exact Kd.R_mono HO157.out (fun _ hk => hk.2)⟩, ⟨by (with_reducible repeat (first | apply Kd.R_alloc | apply Kd.R_drewN | apply Kd.R_drew)); exact Kd.R_mono HO161.out (fun _ hk => hk.2)⟩, ⟨kP BK152⟩, ⟨by repeat (first | (with_reducible first | exact HI0.out | apply IsS70.alloc | apply IsS70.drewN | apply IsS70.drew | apply IsS70.set_1 | refine IsS70.far ?_ NB0_152.out _) | exact HI0.out)⟩, ⟨by repeat (first | (with_reducible first | exact HK.out | apply KeepBut.set_ | apply keep_drewN | apply keep_drew | apply keep_alloc | refine keep_far ?_ GW152.out _) | exact HK.out)⟩, ⟨by repeat (first | (with_reducible first | exact HB.out | apply below_alloc | apply pw_below_drewN | apply below_drew1 | refine below_set ?_ (IsS70.ge HI0.out) | refine below_set ?_ GE152.out) | exact HB.out)⟩⟩
   case round =>
    clear H'
    try clear p2
    try clear c3
    try clear c5
    try clear c6
    try clear c6b0
    try clear c6b1
    try clear p6
    try clear c7
    try clear c7b0
    try clear c7b1
    obtain ⟨x7_1, x8_1, rfl, HA, HK1, HO_6, HO_7, BK152, HI0, HK, HB⟩ := hrel
    cases gk with
    | zero => exact absurd HA.out (by simp [spec_l91Map.l0])
    | succ k1 =>
     have H := HA.out
     clear HA
     simp only [spec_l91Map.l0] at H
     by_cases c13 : (wrap64 (x8_1 + 1)) < ji5
     ·rw [if_pos c13] at H
      have c13b0 : decide ((wrap64 (x8_1 + 1)) < ji5) = true := decide_eq_true c13
      clear c13
      by_cases c14 : 0 ≤ x8_1
      ·rw [if_pos c14] at H
       have c14b0 : decide (0 ≤ x8_1) = true := decide_eq_true c14
       clear c14
       by_cases c15 : x8_1 < (t155.length : Int)
       ·rw [if_pos c15] at H
        have c15b0 : decide (x8_1 < (t155.length : Int)) = true := decide_eq_true c15
        clear c15
        obtain ⟨ji16, hji16⟩ : ∃ j_ : Int, (wrap64 (x8_1 + 1)) = j_ := ⟨_, rfl⟩
        replace H : (if 0 ≤ (ji16) then (if (ji16) < (t155.length : Int) then (if 0 ≤ (rd t155 x8_1) then (if (rd t155 x8_1) < (x7_1.length : Int) then (if 0 ≤ (rd t155 (ji16)) then (if (rd t155 (ji16)) < (x7_1.length : Int) then (spec_l91Map.l0 k1 ji5 t155 ((x7_1.set ((rd t155 x8_1) : Int).toNat (rd t155 (ji16))).set ((rd t155 (ji16)) : Int).toNat (rd t155 x8_1)) (wrap64 (x8_1 + 2)) s0_0 t158) else (none)) else (none)) else (none)) else (none)) else (none)) else (none)) = some (r1, r2, r3) := by first | (rw [hji16] at H; exact H) | (simp only [hji16] at H ⊢; exact H)
        (try rw [hji16] at c13b0)
        have hji16w : (IntKind.i64.wrap (x8_1 + 1)) = ji16 := (i64_w _).trans hji16
        by_cases c17 : 0 ≤ (ji16)
        ·rw [if_pos c17] at H
         have c17b0 : decide (0 ≤ (ji16)) = true := decide_eq_true c17
         clear c17
         by_cases c18 : (ji16) < (t155.length : Int)
         ·rw [if_pos c18] at H
          have c18b0 : decide ((ji16) < (t155.length : Int)) = true := decide_eq_true c18
          clear c18
          by_cases c19 : 0 ≤ (rd t155 x8_1)
          ·rw [if_pos c19] at H
           have c19b0 : decide (0 ≤ (rd t155 x8_1)) = true := decide_eq_true c19
           clear c19
           by_cases c20 : (rd t155 x8_1) < (x7_1.length : Int)
           ·rw [if_pos c20] at H
            have c20b0 : decide ((rd t155 x8_1) < (x7_1.length : Int)) = true := decide_eq_true c20
            clear c20
            obtain ⟨y164, hy164⟩ : ∃ y_ : List Int, y_ = (x7_1.set ((rd t155 x8_1) : Int).toNat (rd t155 (ji16))) := ⟨_, rfl⟩
            replace H : (if 0 ≤ (rd t155 (ji16)) then (if (rd t155 (ji16)) < (x7_1.length : Int) then (spec_l91Map.l0 k1 ji5 t155 (y164.set ((rd t155 (ji16)) : Int).toNat (rd t155 x8_1)) (wrap64 (x8_1 + 2)) s0_0 t158) else (none)) else (none)) = some (r1, r2, r3) := by first | (rw [hy164]; with_reducible exact H) | (have H2_ := (Option.bind_some _ _).symm.trans H; rw [hy164]; with_reducible exact H2_) | (have H2_ := (Option.bind_some _ _).symm.trans H; with_reducible exact H2_) | with_reducible exact H | (rw [hy164]; exact H) | exact H
            have Ny164 := Aside0.mk hy164
            clear hy164
            by_cases c22 : 0 ≤ (rd t155 (ji16))
            ·rw [if_pos c22] at H
             have c22b0 : decide (0 ≤ (rd t155 (ji16))) = true := decide_eq_true c22
             clear c22
             by_cases c23 : (rd t155 (ji16)) < (x7_1.length : Int)
             ·rw [if_pos c23] at H
              have c23b0 : decide ((rd t155 (ji16)) < (x7_1.length : Int)) = true := decide_eq_true c23
              clear c23
              obtain ⟨y167, hy167⟩ : ∃ y_ : List Int, y_ = (y164.set ((rd t155 (ji16)) : Int).toNat (rd t155 x8_1)) := ⟨_, rfl⟩
              replace H : (spec_l91Map.l0 k1 ji5 t155 y167 (wrap64 (x8_1 + 2)) s0_0 t158) = some (r1, r2, r3) := by first | (rw [hy167]; with_reducible exact H) | (have H2_ := (Option.bind_some _ _).symm.trans H; rw [hy167]; with_reducible exact H2_) | (have H2_ := (Option.bind_some _ _).symm.trans H; with_reducible exact H2_) | with_reducible exact H | (rw [hy167]; exact H) | exact H
              have Ny167 := Aside0.mk hy167
              clear hy167
              have H' := Aside0.mk H
              clear H
              try go_wp2
              have n0_ := Aside0.mk (Kd.R_drew HO_6.out)
              have n1_ := Aside0.mk (Kd.R_drew HO_7.out)
              have n2_ := Aside0.mk (blk_drew BK152.out)
              have n3_ := Aside0.mk (IsS70.drew HI0.out)
              have n4_ := Aside0.mk (keep_drew HK.out)
              have n5_ := Aside0.mk (below_drew1 HB.out)
              clear HO_6
              clear HO_7
              clear BK152
              clear HI0
              clear HK
              clear HB
              have HO_6 := n0_
              have HO_7 := n1_
              have BK152 := n2_
              have HI0 := n3_
              have HK := n4_
              have HB := n5_
              clear n0_ n1_ n2_ n3_ n4_ n5_
              obtain ⟨Ao26, co26, eo26⟩ := Kd.R_slice HO_6.out
              (first | subst eo26 | (injection eo26 with f1_ f2_ f3_; have f4_ := f1_.symm; have f5_ := f3_.symm; clear f1_ f2_ f3_; subst f4_; subst f5_))
              have p162 : 0 ≤ (x8_1 : Int) := dT
              have q162 : x8_1 < (t155.length : Int) := dT
              obtain ⟨ad162, e162, hx162_0⟩ := Kd.at_int (Kd.R_reads' HO_6.out).2.2 x8_1 p162 q162
              cases e162
              replace p162 := eq_true p162
              replace q162 := eq_true q162
              have p163 : 0 ≤ ((ji16) : Int) := dT
              have q163 : (ji16) < (t155.length : Int) := dT
              obtain ⟨ad163, e163, hx163_0⟩ := Kd.at_int (Kd.R_reads' HO_6.out).2.2 (ji16) p163 q163
              obtain rfl : ad162 = ad163 := (by injection e163)
              replace p163 := eq_true p163
              replace q163 := eq_true q163
              have p21 : 0 ≤ ((rd t155 x8_1) : Int) := dT
              have q21 : ((rd t155 x8_1) : Int) < ((x7_1.length : Int) : Int) := dT
              obtain ⟨go21, co21, eo21, gb21, gl21, cl21, HG21⟩ := Kd.R_form HO_7.out (by omega)
              (first | cases eo21 | (injection eo21 with ea_ en_ ec_; (first | subst ea_ | (injection ea_ with ea_; subst ea_)); subst ec_; clear en_))
              have GB21 := Aside0.mk gb21
              have GG21 := Aside0.mk HG21
              clear gb21 gl21 HG21
              obtain ⟨hx21_0, hf21_0⟩ := Kd.R_celln 0 HO_7.out ((rd t155 x8_1) : Int) p21 q21
              replace p21 := eq_true p21
              replace q21 := eq_true q21
              have HN0_go21 := Aside0.mk (show g ≠ go21 from by have h_ := IsS70.own_ne HI0.out HO_7.out (by decide); intro e_; exact h_ (by rw [e_]; rfl))
              have HP27 := Kd.R_putn HO_7.out ((rd t155 x8_1) : Int) (rd t155 (ji16))
              rw [← Ny164.out] at HP27
              have HQ27 := Aside0.mk HP27
              clear HP27
              refine start_ (n := 12) (S := fun w' => w'.cell? (ad162.add (x8_1).toNat) = some (.int .i64 (rd t155 x8_1)) ∧ w'.cell? (ad162.add ((ji16)).toNat) = some (.int .i64 (rd t155 (ji16)))) (ds := [11]) #[false, false, false, false, false, false, false, false, false, false, false, false] (by kernel_rfl) rfl rfl ⟨hx162_0, hx163_0⟩ (fun hHeld => ?_); refine with_tabW spec_l91Map.tab7 spec_l91Map.bits7 (fun HT_ HW_ => ?_)
              generalize wr.drew = w25 at HO_6 HO_7 BK152 HI0 HK HB GG21 HQ27 hf21_0 hx162_0 hx163_0 hx21_0 hHeld ⊢
              refine pure_ (i := 0) (N := some 30) (v := ?_) (a' := ?_) #[true, false, false, false, false, false, false, false, false, false, false, false] rfl rfl (any_of HT_.out (by kernel_rfl)) (fun _ _ _ h => h) (Or.inl ⟨by rfl, ?_⟩) ?_ ?_
              rotate_left
              ·intro w'
               go_simp
               with_reducible rfl
              rotate_left
              ·simp only [Act.put, List.setIfInBounds_toArray, List.set_cons_zero, List.set_cons_succ, i64_w, i32_w]
               rfl
              refine pure_ (i := 1) (N := some 31) (v := ?_) (a' := ?_) #[true, true, false, false, false, false, false, false, false, false, false, false] rfl rfl (any_of HT_.out (by kernel_rfl)) (fun _ _ _ h => h) (Or.inl ⟨by rfl, ?_⟩) ?_ ?_
              rotate_left
              ·intro w'
               go_simp
               with_reducible rfl
              rotate_left
              ·simp only [Act.put, List.setIfInBounds_toArray, List.set_cons_zero, List.set_cons_succ, i64_w, i32_w]
               rfl
              refine pure_ (i := 2) (N := some 32) (v := ?_) (a' := ?_) #[true, true, true, false, false, false, false, false, false, false, false, false] rfl rfl (any_of HT_.out (by kernel_rfl)) (fun _ _ _ h => h) (Or.inl ⟨by rfl, ?_⟩) ?_ ?_
              rotate_left
              ·intro w'
               go_simp
               with_reducible rfl
              rotate_left
              ·simp only [Act.put, List.setIfInBounds_toArray, List.set_cons_zero, List.set_cons_succ, i64_w, i32_w]
               rfl
              refine pure_ (i := 3) (N := some 33) (v := ?_) (a' := ?_) #[true, true, true, true, false, false, false, false, false, false, false, false] rfl rfl (any_of HT_.out (by kernel_rfl)) (fun _ _ _ h => h) (Or.inl ⟨by rfl, ?_⟩) ?_ ?_
              rotate_left
              ·intro w'
               go_simp
               with_reducible rfl
              rotate_left
              ·simp only [Act.put, List.setIfInBounds_toArray, List.set_cons_zero, List.set_cons_succ, i64_w, i32_w]
               rfl
              refine pure_ (i := 5) (N := some 35) (v := ?_) (a' := ?_) #[true, true, true, true, false, true, false, false, false, false, false, false] rfl rfl (any_of HT_.out (by kernel_rfl)) (fun _ _ _ h => h) (Or.inl ⟨by rfl, ?_⟩) ?_ ?_
              rotate_left
              ·intro w'
               go_simp
               with_reducible rfl
              rotate_left
              ·simp only [Act.put, List.setIfInBounds_toArray, List.set_cons_zero, List.set_cons_succ, i64_w, i32_w]
               rfl
              refine pure_ (i := 6) (N := some 36) (v := ?_) (a' := ?_) #[true, true, true, true, false, true, true, false, false, false, false, false] rfl rfl (any_of HT_.out (by kernel_rfl)) (fun _ _ _ h => h) (Or.inl ⟨by rfl, ?_⟩) ?_ ?_
              rotate_left
              ·intro w'
               go_simp
               with_reducible rfl
              rotate_left
              ·simp only [Act.put, List.setIfInBounds_toArray, List.set_cons_zero, List.set_cons_succ, i64_w, i32_w]
               rfl
              refine pure_ (i := 7) (N := some 37) (v := ?_) (a' := ?_) #[true, true, true, true, false, true, true, true, false, false, false, false] rfl rfl (any_of HT_.out (by kernel_rfl)) (fun _ _ _ h => h) (Or.inl ⟨by rfl, ?_⟩) ?_ ?_
              rotate_left
              ·intro w'
               go_simp
               with_reducible rfl
              rotate_left
              ·simp only [Act.put, List.setIfInBounds_toArray, List.set_cons_zero, List.set_cons_succ, i64_w, i32_w]
               rfl
              refine pure_ (i := 8) (N := some 38) (v := ?_) (a' := ?_) #[true, true, true, true, false, true, true, true, true, false, false, false] rfl rfl (any_of HT_.out (by kernel_rfl)) (fun _ _ _ h => h) (Or.inl ⟨by rfl, ?_⟩) ?_ ?_
              rotate_left
              ·intro w'
               go_simp
               with_reducible rfl
              rotate_left
              ·simp only [Act.put, List.setIfInBounds_toArray, List.set_cons_zero, List.set_cons_succ, i64_w, i32_w]
               rfl
              refine take_ (i := 4) (N := some 34) (v := ?_) (a' := ?_) #[true, true, true, true, true, true, true, true, true, false, false, false] rfl rfl (take_ofW HT_.out HW_.out (by kernel_rfl)) (fun _ _ _ h => h) (Or.inl ⟨by rfl, ?_⟩) hHeld ?_ ?_
              rotate_left
              ·rintro w' ⟨s0, s1⟩
               go_simp
               with_reducible rfl
              rotate_left
              ·simp only [Act.put, List.setIfInBounds_toArray, List.set_cons_zero, List.set_cons_succ, i64_w, i32_w]
               rfl
              refine take_ (i := 9) (N := some 39) (v := ?_) (a' := ?_) #[true, true, true, true, true, true, true, true, true, true, false, false] rfl rfl (take_ofW HT_.out HW_.out (by kernel_rfl)) (fun _ _ _ h => h) (Or.inl ⟨by rfl, ?_⟩) hHeld ?_ ?_
              rotate_left
              ·rintro w' ⟨s0, s1⟩
               go_simp
               with_reducible rfl
              rotate_left
              ·simp only [Act.put, List.setIfInBounds_toArray, List.set_cons_zero, List.set_cons_succ, i64_w, i32_w]
               rfl
              refine pure_ (i := 10) (N := some 40) (v := ?_) (a' := ?_) #[true, true, true, true, true, true, true, true, true, true, true, false] rfl rfl (any_of HT_.out (by kernel_rfl)) (fun _ _ _ h => h) (Or.inl ⟨by rfl, ?_⟩) ?_ ?_
              rotate_left
              ·intro w'
               go_simp
               with_reducible rfl
              rotate_left
              ·simp only [Act.put, List.setIfInBounds_toArray, List.set_cons_zero, List.set_cons_succ, i64_w, i32_w]
               rfl
              refine last_ (i := 11) (N := none) #[true, true, true, true, true, true, true, true, true, true, true, true] rfl rfl (one_of HT_.out (by kernel_rfl)) (by decide) (fun K hK => ?_)
              refine skip_ (w1 := ?_) (by rfl) rfl ?_ ?_
              rotate_left
              ·go_simp
               rfl
              refine hK.out _ _ ?_
              clear hK K
              refine done_ (done_of HT_.out (by kernel_rfl)) ?_
              try go_wp2
              have n0_ : Aside0 (Kd.R (Kd.int .i64) 3 (w25.setCell ⟨go21, ((rd t155 x8_1) : Int).toNat, none⟩ (.int .i64 (rd t155 (ji16)))) w.heap.size (fun k_ => some k_ ≠ (.slice (some ⟨go21, 0, none⟩) x7_1.length co21 : Value).ownBlock) (.slice (some ad162) t155.length co26) t155) := ⟨by (with_reducible repeat (first | apply Kd.R_alloc | apply Kd.R_drewN | apply Kd.R_drew)); exact Kd.R_mono (Kd.R_far (p := ⟨go21, ((rd t155 x8_1) : Int).toNat, none⟩) (Kd.R_mono HO_6.out (fun k_ hk => (⟨hk, fun e_ => hk (by rw [e_]; rfl)⟩ : _ ∧ k_ ≠ go21))) (fun _ hk => hk.2) (.int .i64 (rd t155 (ji16)))) (fun _ hk => hk.1)⟩
              have n1_ : Aside0 (Kd.R (Kd.int .i64) 3 (w25.setCell ⟨go21, ((rd t155 x8_1) : Int).toNat, none⟩ (.int .i64 (rd t155 (ji16)))) w.heap.size (fun k_ => some k_ ≠ (.slice (some ad162) t155.length co26 : Value).ownBlock) (.slice (some ⟨go21, 0, none⟩) x7_1.length co21) y164) := ⟨rP HQ27⟩
              have n2_ : Aside0 ((w25.setCell ⟨go21, ((rd t155 x8_1) : Int).toNat, none⟩ (.int .i64 (rd t155 (ji16)))).heap[gb152]? = some (.cells #[.slice none 0 0, .slice none 0 0] 25 (0, 0))) := ⟨by (with_reducible repeat (first | refine blk_drewN ?_ _ | refine blk_drew ?_ | refine blk_alloc ?_ _)); refine blk_far ?_ (by have h_ := Kd.R_ne HO_7.out BK152.out (by decide); intro e_; exact h_ (by rw [e_]; rfl)) _; (with_reducible repeat (first | refine blk_drewN ?_ _ | refine blk_drew ?_ | refine blk_alloc ?_ _)); exact BK152.out⟩
              have n3_ : Aside0 (IsS70 w0 (w25.setCell ⟨go21, ((rd t155 x8_1) : Int).toNat, none⟩ (.int .i64 (rd t155 (ji16)))) g s0_0 t158) := ⟨by repeat (first | (with_reducible first | exact HI0.out | apply IsS70.alloc | apply IsS70.drewN | apply IsS70.drew | apply IsS70.set_1 | refine IsS70.far ?_ HN0_go21.out _ | refine IsS70.far ?_ NB0_152.out _) | exact HI0.out)⟩
              have n4_ : Aside0 (KeepBut w (w25.setCell ⟨go21, ((rd t155 x8_1) : Int).toNat, none⟩ (.int .i64 (rd t155 (ji16)))) g none) := ⟨by repeat (first | (with_reducible first | exact HK.out | apply KeepBut.set_ | apply keep_drewN | apply keep_drew | apply keep_alloc | refine keep_far ?_ GB21.out _ | refine keep_far ?_ GW152.out _) | exact HK.out)⟩
              have n5_ : Aside0 (Below w0.heap.size w0 (w25.setCell ⟨go21, ((rd t155 x8_1) : Int).toNat, none⟩ (.int .i64 (rd t155 (ji16))))) := ⟨by repeat (first | (with_reducible first | exact HB.out | apply below_alloc | apply pw_below_drewN | apply below_drew1 | refine below_set ?_ (Nat.le_trans HL.out GB21.out) | refine below_set ?_ (IsS70.ge HI0.out) | refine below_set ?_ GE152.out) | exact HB.out)⟩
              (try clear HO_6)
              (try clear HO_7)
              (try clear BK152)
              (try clear HI0)
              (try clear HK)
              (try clear HB)
              generalize (w25.setCell ⟨go21, ((rd t155 x8_1) : Int).toNat, none⟩ (.int .i64 (rd t155 (ji16)))) = w28 at n0_ n1_ n2_ n3_ n4_ n5_ ⊢
              have HO_6 := n0_
              have HO_7 := n1_
              have BK152 := n2_
              have HI0 := n3_
              have HK := n4_
              have HB := n5_
              clear n0_ n1_ n2_ n3_ n4_ n5_
              have n0_ := Aside0.mk (Kd.R_drew HO_6.out)
              have n1_ := Aside0.mk (Kd.R_drew HO_7.out)
              have n2_ := Aside0.mk (blk_drew BK152.out)
              have n3_ := Aside0.mk (IsS70.drew HI0.out)
              have n4_ := Aside0.mk (keep_drew HK.out)
              have n5_ := Aside0.mk (below_drew1 HB.out)
              clear HO_6
              clear HO_7
              clear BK152
              clear HI0
              clear HK
              clear HB
              have HO_6 := n0_
              have HO_7 := n1_
              have BK152 := n2_
              have HI0 := n3_
              have HK := n4_
              have HB := n5_
              clear n0_ n1_ n2_ n3_ n4_ n5_
              have p165 : 0 ≤ ((ji16) : Int) := dT
              have q165 : (ji16) < (t155.length : Int) := dT
              obtain ⟨ad165, e165, hx165_0⟩ := Kd.at_int (Kd.R_reads' HO_6.out).2.2 (ji16) p165 q165
              obtain rfl : ad162 = ad165 := (by injection e165)
              replace p165 := eq_true p165
              replace q165 := eq_true q165
              have p166 : 0 ≤ (x8_1 : Int) := dT
              have q166 : x8_1 < (t155.length : Int) := dT
              obtain ⟨ad166, e166, hx166_0⟩ := Kd.at_int (Kd.R_reads' HO_6.out).2.2 x8_1 p166 q166
              obtain rfl : ad162 = ad166 := (by injection e166)
              replace p166 := eq_true p166
              replace q166 := eq_true q166
              have p24 : 0 ≤ ((rd t155 (ji16)) : Int) := dT
              have q24 : ((rd t155 (ji16)) : Int) < ((x7_1.length : Int) : Int) := dT
              obtain ⟨hx24_0, hf24_0⟩ := Kd.R_celln 0 HO_7.out ((rd t155 (ji16)) : Int) p24 q24
              replace p24 := eq_true p24
              replace q24 := eq_true q24
              have HN0_go21 := Aside0.mk (show g ≠ go21 from by have h_ := IsS70.own_ne HI0.out HO_7.out (by decide); intro e_; exact h_ (by rw [e_]; rfl))
              have HP30 := Kd.R_putn HO_7.out ((rd t155 (ji16)) : Int) (rd t155 x8_1)
              rw [← Ny167.out] at HP30
              have HQ30 := Aside0.mk HP30
              clear HP30
              refine start_ (n := 12) (S := fun w' => w'.cell? (ad162.add ((ji16)).toNat) = some (.int .i64 (rd t155 (ji16))) ∧ w'.cell? (ad162.add (x8_1).toNat) = some (.int .i64 (rd t155 x8_1))) (ds := [11]) #[false, false, false, false, false, false, false, false, false, false, false, false] (by kernel_rfl) rfl rfl ⟨hx165_0, hx166_0⟩ (fun hHeld => ?_); refine with_tabW spec_l91Map.tab8 spec_l91Map.bits8 (fun HT_ HW_ => ?_)
              generalize w28.drew = w29 at HO_6 HO_7 BK152 HI0 HK HB HQ27 HQ30 hf24_0 hx165_0 hx166_0 hx24_0 hHeld ⊢
              refine pure_ (i := 0) (N := some 41) (v := ?_) (a' := ?_) #[true, false, false, false, false, false, false, false, false, false, false, false] rfl rfl (any_of HT_.out (by kernel_rfl)) (fun _ _ _ h => h) (Or.inl ⟨by rfl, ?_⟩) ?_ ?_
              rotate_left
              ·intro w'
               go_simp
               with_reducible rfl
              rotate_left
              ·simp only [Act.put, List.setIfInBounds_toArray, List.set_cons_zero, List.set_cons_succ, i64_w, i32_w]
               rfl
              refine pure_ (i := 1) (N := some 42) (v := ?_) (a' := ?_) #[true, true, false, false, false, false, false, false, false, false, false, false] rfl rfl (any_of HT_.out (by kernel_rfl)) (fun _ _ _ h => h) (Or.inl ⟨by rfl, ?_⟩) ?_ ?_
              rotate_left
              ·intro w'
               go_simp
               with_reducible rfl
              rotate_left
              ·simp only [Act.put, List.setIfInBounds_toArray, List.set_cons_zero, List.set_cons_succ, i64_w, i32_w]
               rfl
              refine pure_ (i := 2) (N := some 43) (v := ?_) (a' := ?_) #[true, true, true, false, false, false, false, false, false, false, false, false] rfl rfl (any_of HT_.out (by kernel_rfl)) (fun _ _ _ h => h) (Or.inl ⟨by rfl, ?_⟩) ?_ ?_
              rotate_left
              ·intro w'
               go_simp
               with_reducible rfl
              rotate_left
              ·simp only [Act.put, List.setIfInBounds_toArray, List.set_cons_zero, List.set_cons_succ, i64_w, i32_w]
               rfl
              refine pure_ (i := 3) (N := some 44) (v := ?_) (a' := ?_) #[true, true, true, true, false, false, false, false, false, false, false, false] rfl rfl (any_of HT_.out (by kernel_rfl)) (fun _ _ _ h => h) (Or.inl ⟨by rfl, ?_⟩) ?_ ?_
              rotate_left
              ·intro w'
               go_simp
               with_reducible rfl
              rotate_left
              ·simp only [Act.put, List.setIfInBounds_toArray, List.set_cons_zero, List.set_cons_succ, i64_w, i32_w]
               rfl
              refine pure_ (i := 4) (N := some 45) (v := ?_) (a' := ?_) #[true, true, true, true, true, false, false, false, false, false, false, false] rfl rfl (any_of HT_.out (by kernel_rfl)) (fun _ _ _ h => h) (Or.inl ⟨by rfl, ?_⟩) ?_ ?_
              rotate_left
              ·intro w'
               go_simp
               with_reducible rfl
              rotate_left
              ·simp only [Act.put, List.setIfInBounds_toArray, List.set_cons_zero, List.set_cons_succ, i64_w, i32_w]
               rfl
              refine pure_ (i := 6) (N := some 47) (v := ?_) (a' := ?_) #[true, true, true, true, true, false, true, false, false, false, false, false] rfl rfl (any_of HT_.out (by kernel_rfl)) (fun _ _ _ h => h) (Or.inl ⟨by rfl, ?_⟩) ?_ ?_
              rotate_left
              ·intro w'
               go_simp
               with_reducible rfl
              rotate_left
              ·simp only [Act.put, List.setIfInBounds_toArray, List.set_cons_zero, List.set_cons_succ, i64_w, i32_w]
               rfl
              refine pure_ (i := 7) (N := some 48) (v := ?_) (a' := ?_) #[true, true, true, true, true, false, true, true, false, false, false, false] rfl rfl (any_of HT_.out (by kernel_rfl)) (fun _ _ _ h => h) (Or.inl ⟨by rfl, ?_⟩) ?_ ?_
              rotate_left
              ·intro w'
               go_simp
               with_reducible rfl
              rotate_left
              ·simp only [Act.put, List.setIfInBounds_toArray, List.set_cons_zero, List.set_cons_succ, i64_w, i32_w]
               rfl
              refine pure_ (i := 8) (N := some 49) (v := ?_) (a' := ?_) #[true, true, true, true, true, false, true, true, true, false, false, false] rfl rfl (any_of HT_.out (by kernel_rfl)) (fun _ _ _ h => h) (Or.inl ⟨by rfl, ?_⟩) ?_ ?_
              rotate_left
              ·intro w'
               go_simp
               with_reducible rfl
              rotate_left
              ·simp only [Act.put, List.setIfInBounds_toArray, List.set_cons_zero, List.set_cons_succ, i64_w, i32_w]
               rfl
              refine take_ (i := 5) (N := some 46) (v := ?_) (a' := ?_) #[true, true, true, true, true, true, true, true, true, false, false, false] rfl rfl (take_ofW HT_.out HW_.out (by kernel_rfl)) (fun _ _ _ h => h) (Or.inl ⟨by rfl, ?_⟩) hHeld ?_ ?_
              rotate_left
              ·rintro w' ⟨s0, s1⟩
               go_simp
               with_reducible rfl
              rotate_left
              ·simp only [Act.put, List.setIfInBounds_toArray, List.set_cons_zero, List.set_cons_succ, i64_w, i32_w]
               rfl
              refine take_ (i := 9) (N := some 50) (v := ?_) (a' := ?_) #[true, true, true, true, true, true, true, true, true, true, false, false] rfl rfl (take_ofW HT_.out HW_.out (by kernel_rfl)) (fun _ _ _ h => h) (Or.inl ⟨by rfl, ?_⟩) hHeld ?_ ?_
              rotate_left
              ·rintro w' ⟨s0, s1⟩
               go_simp
               with_reducible rfl
              rotate_left
              ·simp only [Act.put, List.setIfInBounds_toArray, List.set_cons_zero, List.set_cons_succ, i64_w, i32_w]
               rfl
              refine pure_ (i := 10) (N := some 51) (v := ?_) (a' := ?_) #[true, true, true, true, true, true, true, true, true, true, true, false] rfl rfl (any_of HT_.out (by kernel_rfl)) (fun _ _ _ h => h) (Or.inl ⟨by rfl, ?_⟩) ?_ ?_
              rotate_left
              ·intro w'
               go_simp
               with_reducible rfl
              rotate_left
              ·simp only [Act.put, List.setIfInBounds_toArray, List.set_cons_zero, List.set_cons_succ, i64_w, i32_w]
               rfl
              refine last_ (i := 11) (N := none) #[true, true, true, true, true, true, true, true, true, true, true, true] rfl rfl (one_of HT_.out (by kernel_rfl)) (by decide) (fun K hK => ?_)
              refine skip_ (w1 := ?_) (by rfl) rfl ?_ ?_
              rotate_left
              ·go_simp
               rfl
              refine hK.out _ _ ?_
              clear hK K
              refine done_ (done_of HT_.out (by kernel_rfl)) ?_
              try go_wp2
              go_roundg k1
              case measure => have := HK1.out; omega
              case rel => exact ⟨(y167), (wrap64 (x8_1 + 2)), eS, H', ⟨by have := HK1.out; omega⟩, ⟨by (with_reducible repeat (first | apply Kd.R_alloc | apply Kd.R_drewN | apply Kd.R_drew)); exact Kd.R_mono (Kd.R_far (p := ⟨go21, ((rd t155 (ji16)) : Int).toNat, none⟩) (Kd.R_mono HO_6.out (fun k_ hk => (⟨hk, fun e_ => hk (by rw [e_]; rfl)⟩ : _ ∧ k_ ≠ go21))) (fun _ hk => hk.2) (.int .i64 (rd t155 x8_1))) (fun _ hk => hk.1)⟩, ⟨rP HQ30⟩, ⟨by (with_reducible repeat (first | refine blk_drewN ?_ _ | refine blk_drew ?_ | refine blk_alloc ?_ _)); refine blk_far ?_ (by have h_ := Kd.R_ne HO_7.out BK152.out (by decide); intro e_; exact h_ (by rw [e_]; rfl)) _; (with_reducible repeat (first | refine blk_drewN ?_ _ | refine blk_drew ?_ | refine blk_alloc ?_ _)); exact BK152.out⟩, ⟨by repeat (first | (with_reducible first | exact HI0.out | apply IsS70.alloc | apply IsS70.drewN | apply IsS70.drew | apply IsS70.set_1 | refine IsS70.far ?_ HN0_go21.out _ | refine IsS70.far ?_ NB0_152.out _) | exact HI0.out)⟩, ⟨by repeat (first | (with_reducible first | exact HK.out | apply KeepBut.set_ | apply keep_drewN | apply keep_drew | apply keep_alloc | refine keep_far ?_ GB21.out _ | refine keep_far ?_ GW152.out _) | exact HK.out)⟩, ⟨by repeat (first | (with_reducible first | exact HB.out | apply below_alloc | apply pw_below_drewN | apply below_drew1 | refine below_set ?_ (Nat.le_trans HL.out GB21.out) | refine below_set ?_ (IsS70.ge HI0.out) | refine below_set ?_ GE152.out) | exact HB.out)⟩⟩
             ·rw [if_neg c23] at H
              exact absurd H (by simp)
            ·rw [if_neg c22] at H
             exact absurd H (by simp)
           ·rw [if_neg c20] at H
            exact absurd H (by simp)
          ·rw [if_neg c19] at H
           exact absurd H (by simp)
         ·rw [if_neg c18] at H
          exact absurd H (by simp)
        ·rw [if_neg c17] at H
         exact absurd H (by simp)
       ·rw [if_neg c15] at H
        exact absurd H (by simp)
      ·rw [if_neg c14] at H
       exact absurd H (by simp)
     ·rw [if_neg c13] at H
      have c13b0 : decide ((wrap64 (x8_1 + 1)) < ji5) = false := decide_eq_false c13
      clear c13
      replace H := Option.bind_eq_some_iff.mp H
      obtain ⟨⟨t168, t171⟩, A310, H⟩ := H
      replace H : (spec_l91Map.l1 k1 ji5 0 s0_0 t171 t168 x7_1) = some (r1, r2, r3) := H
      have A31 := Aside0.mk A310
      clear A310
      have H' := Aside0.mk H
      clear H
      go_wp2_with (first | ((with_reducible refine gate_callee (f := 57) rfl ?_); refine goesL_ (some 54) rfl rfl Try.func57 (by kernel_rfl) rfl #[.pointer (some ⟨g, 0, none⟩), .int .i64 ji5] rfl (by (try simp only [List.map_toArray, List.map_cons, List.map_nil]); first | done | (simp only [hji5]; rfl) | rfl | (simp only [List.length_drop, List.length_take]; rfl)) ?_; (with_reducible refine (spec_l91Perm.calls k1 g s0_0 t158 ji5 t168 t171 w0 _ ?side1 ?side2 A31.out).mono ?_); (case side1 => repeat (first | (with_reducible first | exact HI0.out | apply IsS70.alloc | apply IsS70.drewN | apply IsS70.drew | apply IsS70.set_1 | refine IsS70.far ?_ NB0_152.out _) | exact HI0.out)); (case side2 => repeat (first | (with_reducible first | exact HB.out | apply below_alloc | apply pw_below_drewN | apply below_drew1 | refine below_set ?_ (IsS70.ge HI0.out) | refine below_set ?_ GE152.out) | exact HB.out)); rintro e w32 ⟨v169, rfl, ho0, hi, hb, hk⟩; refine ⟨_, rfl, ?_⟩; replace BK152 := Aside0.mk (KeepBut.blk hk (g' := gb152) (o := .cells #[.slice none 0 0, .slice none 0 0] 25 (0, 0)) (kP BK152) NB152_0.out (by simp)); have HO170 := Aside0.mk (Kd.R_lower (Kd.R_new' (Kd.R_new' ho0 (Kd.R_lt (rP HO_6))) (Kd.R_lt (rP HO_7))) (keep_size (w := w) (g := g) (row := none) (by repeat (first | (with_reducible first | exact HK.out | apply KeepBut.set_ | apply keep_drewN | apply keep_drew | apply keep_alloc | refine keep_far ?_ GW152.out _) | exact HK.out)))); replace HO_6 := Aside0.mk (Kd.R_mono (Kd.R_told (Kd.R_oldK (IsS70.apart (show IsS70 w0 _ g s0_0 t158 from by repeat (first | (with_reducible first | exact HI0.out | apply IsS70.alloc | apply IsS70.drewN | apply IsS70.drew | apply IsS70.set_1 | refine IsS70.far ?_ NB0_152.out _) | exact HI0.out)) (rP HO_6) (by decide)) hk) (Kd.R_base ho0)) (fun _ h_ => h_.1)); replace HO_7 := Aside0.mk (Kd.R_mono (Kd.R_told (Kd.R_oldK (IsS70.apart (show IsS70 w0 _ g s0_0 t158 from by repeat (first | (with_reducible first | exact HI0.out | apply IsS70.alloc | apply IsS70.drewN | apply IsS70.drew | apply IsS70.set_1 | refine IsS70.far ?_ NB0_152.out _) | exact HI0.out)) (rP HO_7) (by decide)) hk) (Kd.R_base ho0)) (fun _ h_ => h_.1)); replace HK := Aside0.mk (KeepBut.trans (by repeat (first | (with_reducible first | exact HK.out | apply KeepBut.set_ | apply keep_drewN | apply keep_drew | apply keep_alloc | refine keep_far ?_ GW152.out _) | exact HK.out)) hk (.inl rfl)); replace HB := Aside0.mk (hb); replace HI0 := Aside0.mk (hi); (try clear hb); (try clear hb2); (try clear hk); (try clear hi); (try clear ho0); obtain ⟨Ao33, co33, eo33⟩ := Kd.R_slice HO_7.out; subst eo33; obtain ⟨Ao34, co34, eo34⟩ := Kd.R_slice HO170.out; subst eo34) | ((with_reducible refine gate_dst (N := 9) rfl ?_); refine bE 9 #[.slice none 0 0, .slice none 0 0] 25 ?_; intro gb172 hg w35 hbox hb; replace HO_6 := rB HO_6 hb; replace HO_7 := rB HO_7 hb; replace HO170 := rB HO170 hb; replace HB := Aside0.mk (below_step (by repeat (first | (with_reducible first | exact HB.out | apply below_alloc | apply pw_below_drewN | apply below_drew1 | refine below_set ?_ (IsS70.ge HI0.out) | refine below_set ?_ GE152.out) | exact HB.out)) hb); have BK172 := Aside0.mk (hbox); have GW172 := Aside0.mk ((by rw [hg]; exact (keep_size (w := w) (g := g) (row := none) (by repeat (first | (with_reducible first | exact HK.out | apply KeepBut.set_ | apply keep_drewN | apply keep_drew | apply keep_alloc | refine keep_far ?_ GW152.out _) | exact HK.out))) : w.heap.size ≤ gb172)); have GE172 := Aside0.mk ((Nat.le_trans HW0.out (by rw [hg]; exact (keep_size (w := w) (g := g) (row := none) (by repeat (first | (with_reducible first | exact HK.out | apply KeepBut.set_ | apply keep_drewN | apply keep_drew | apply keep_alloc | refine keep_far ?_ GW152.out _) | exact HK.out))) : w.heap.size ≤ gb172) : w0.heap.size ≤ gb172)); replace HK := Aside0.mk (KeepBut.trans (by repeat (first | (with_reducible first | exact HK.out | apply KeepBut.set_ | apply keep_drewN | apply keep_drew | apply keep_alloc | refine keep_far ?_ GW152.out _) | exact HK.out)) (KeepBut.of_below hb g none) (.inl rfl)); have NB152_172 := nL BK152 hg; have NB172_152 := nG BK152 hg; replace BK152 := kB BK152 hb; have NB0_172 := Aside0.mk ((by rw [hg]; exact Nat.ne_of_lt (IsS70.lt (show IsS70 w0 _ g s0_0 t171 from by repeat (first | (with_reducible first | exact HI0.out | apply IsS70.alloc | apply IsS70.drewN | apply IsS70.drew | apply IsS70.set_1 | refine IsS70.far ?_ NB0_152.out _) | exact HI0.out))) : g ≠ gb172)); have NB172_0 := Aside0.mk ((by rw [hg]; exact Nat.ne_of_gt (IsS70.lt (show IsS70 w0 _ g s0_0 t171 from by repeat (first | (with_reducible first | exact HI0.out | apply IsS70.alloc | apply IsS70.drewN | apply IsS70.drew | apply IsS70.set_1 | refine IsS70.far ?_ NB0_152.out _) | exact HI0.out))) : gb172 ≠ g)); replace HI0 := Aside0.mk (IsS70.below (by repeat (first | (with_reducible first | exact HI0.out | apply IsS70.alloc | apply IsS70.drewN | apply IsS70.drew | apply IsS70.set_1 | refine IsS70.far ?_ NB0_152.out _) | exact HI0.out)) hb); clear hb hbox hg; have hnb36 := NB172_152.out; have hnc36 := NB152_172.out; have hnb37 := NB172_0.out; have hnc37 := NB0_172.out; have hcz38_0 := zc0 BK172; have hcz38_1 := zc1 BK172; have hfz38_0 := blk_frozen BK172.out 0; have hfz38_1 := blk_frozen BK172.out 1))
      go_loopg [10] k1 (fun kq v10 w' => ∃ (x10_2 : Int) (x173000_2 : List Int) (x173001_2 : List Int) (u173000 : Value) (u173001 : Value), v10 = .int .i64 x10_2 ∧ Aside0 (spec_l91Map.l1 kq ji5 x10_2 s0_0 t171 x173000_2 x173001_2 = some (r1, r2, r3)) ∧ Aside0 (kq ≤ k1) ∧ Aside0 (Kd.Q (Kd.int .i64) 3 w' w.heap.size (fun k_ => some k_ ≠ (u173001 : Value).ownBlock) u173000 x173000_2) ∧ Aside0 (Kd.R (Kd.int .i64) 3 w' w.heap.size (fun k_ => some k_ ≠ (u173000 : Value).ownBlock) u173001 x173001_2) ∧ Aside0 (w'.heap[gb152]? = some (.cells #[(.slice none 0 0), (.slice none 0 0)] 25 (0, 0))) ∧ Aside0 (w'.heap[gb172]? = some (.cells #[u173000, u173001] 25 (0, 0))) ∧ Aside0 (IsS70 w0 w' g s0_0 t171) ∧ Aside0 (KeepBut w w' g none) ∧ Aside0 (Below w0.heap.size w0 w'))
      case atStart => exact ⟨(0), (t168), (x7_1), (.slice Ao34 t168.length co34), (.slice Ao33 x7_1.length co33), eS, H', ⟨Nat.le_refl _⟩, ⟨Kd.Q_of_R (by (with_reducible repeat (first | apply Kd.R_alloc | apply Kd.R_drewN | apply Kd.R_drew)); exact Kd.R_mono (Kd.R_far (p := ⟨gb172, 1, none⟩) (Kd.R_far (p := ⟨gb172, 0, none⟩) (Kd.R_types HO170.out BK172.out (by decide)) (fun _ hk => hk.2) (.slice Ao34 t168.length co34)) (fun _ hk => hk.2) (.slice Ao33 x7_1.length co33)) (fun _ hk => hk.1.2))⟩, ⟨by (with_reducible repeat (first | apply Kd.R_alloc | apply Kd.R_drewN | apply Kd.R_drew)); exact Kd.R_mono (Kd.R_far (p := ⟨gb172, 1, none⟩) (Kd.R_far (p := ⟨gb172, 0, none⟩) (Kd.R_types HO_7.out BK172.out (by decide)) (fun _ hk => hk.2) (.slice Ao34 t168.length co34)) (fun _ hk => hk.2) (.slice Ao33 x7_1.length co33)) (fun _ hk => hk.1.2)⟩, ⟨kF BK152⟩, ⟨by (with_reducible repeat (first | refine blk_drewN ?_ _ | refine blk_drew ?_ | refine blk_alloc ?_ _)); refine blk_put (cs := #[.slice Ao34 t168.length co34, .slice none 0 0]) ?_ 1 _ rfl; (with_reducible repeat (first | refine blk_drewN ?_ _ | refine blk_drew ?_ | refine blk_alloc ?_ _)); refine blk_put (cs := #[.slice none 0 0, .slice none 0 0]) ?_ 0 _ rfl; (with_reducible repeat (first | refine blk_drewN ?_ _ | refine blk_drew ?_ | refine blk_alloc ?_ _)); exact BK172.out⟩, ⟨by repeat (first | (with_reducible first | exact HI0.out | apply IsS70.alloc | apply IsS70.drewN | apply IsS70.drew | apply IsS70.set_1 | refine IsS70.far ?_ NB0_152.out _ | refine IsS70.far ?_ NB0_172.out _) | exact HI0.out)⟩, ⟨by repeat (first | (with_reducible first | exact HK.out | apply KeepBut.set_ | apply keep_drewN | apply keep_drew | apply keep_alloc | refine keep_far ?_ GW152.out _ | refine keep_far ?_ GW172.out _) | exact HK.out)⟩, ⟨by repeat (first | (with_reducible first | exact HB.out | apply below_alloc | apply pw_below_drewN | apply below_drew1 | refine below_set ?_ (IsS70.ge HI0.out) | refine below_set ?_ GE152.out | refine below_set ?_ GE172.out) | exact HB.out)⟩⟩
      case round =>
       clear H'
       try clear c1
       try clear p1
       try clear q1
       try clear hx1
       try clear c2
       try clear p2
       try clear q2
       try clear hx2
       try clear hf2
       try clear c3
       try clear c5
       try clear c6
       try clear c6b0
       try clear c6b1
       try clear p6
       try clear c7
       try clear c7b0
       try clear c7b1
       try clear c13
       try clear c13b0
       try clear c14
       try clear c14b0
       try clear c15
       try clear c15b0
       try clear p16
       try clear q16
       try clear hx16
       try clear c17
       try clear c17b0
       try clear c18
       try clear c18b0
       try clear c19
       try clear c19b0
       try clear c20
       try clear c20b0
       try clear p21
       try clear q21
       try clear hx21
       try clear hf21
       try clear c22
       try clear c22b0
       try clear c23
       try clear c23b0
       try clear p24
       try clear q24
       try clear hx24
       try clear hf24
       try clear c36
       try clear c37
       try clear hcz38_0
       try clear hcz38_1
       try clear hfz38_0
       try clear hfz38_1
       try clear hx162_0
       try clear hx163_0
       try clear hx165_0
       try clear hx166_0
       try clear hx21_0
       try clear hx24_0
       try clear p162
       try clear p163
       try clear p165
       try clear p166
       try clear p2
       try clear p21
       try clear p24
       try clear p6
       try clear q162
       try clear q163
       try clear q165
       try clear q166
       try clear q21
       try clear q24
       obtain ⟨x10_2, x173000_2, x173001_2, u173000, u173001, rfl, HA, HK2, HO_173000, HO_173001, BK152, BK172, HI0, HK, HB⟩ := hrel
       cases gk with
       | zero => exact absurd HA.out (by simp [spec_l91Map.l1])
       | succ k2 =>
        have H := HA.out
        clear HA
        simp only [spec_l91Map.l1] at H
        have HC39 := Aside0.mk H
        clear H
        go_upto_region 11 with (fail)
        go_cut [64] (fun v64 wc => ∃ (kq : Nat) (x64_38 : Bool), v64 = .bool x64_38 ∧ Aside0 (spec_l91Map.j2 kq ji5 x10_2 x64_38 s0_0 t171 x173000_2 x173001_2 = some (r1, r2, r3)) ∧ Aside0 (kq ≤ k2) ∧ Aside0 (Kd.Q (Kd.int .i64) 3 wc w.heap.size (fun k_ => some k_ ≠ (u173001 : Value).ownBlock) u173000 x173000_2) ∧ Aside0 (Kd.R (Kd.int .i64) 3 wc w.heap.size (fun k_ => some k_ ≠ (u173000 : Value).ownBlock) u173001 x173001_2) ∧ Aside0 (wc.heap[gb152]? = some (.cells #[(.slice none 0 0), (.slice none 0 0)] 25 (0, 0))) ∧ Aside0 (wc.heap[gb172]? = some (.cells #[u173000, u173001] 25 (0, 0))) ∧ Aside0 (IsS70 w0 wc g s0_0 t171) ∧ Aside0 (KeepBut w wc g none) ∧ Aside0 (Below w0.heap.size w0 wc))
        case first =>
         have H := HC39.out
         clear HC39
         by_cases c40 : x10_2 < ji5
         ·rw [if_pos c40] at H
          have c40b0 : decide (x10_2 < ji5) = true := decide_eq_true c40
          clear c40
          (first | rw [c40b0] | (simp only [i64_w, i32_w]; rw [c40b0]) | skip)
          replace H := Option.bind_eq_some_iff.mp H
          obtain ⟨t173, A410, H⟩ := H
          replace H : (spec_l91Map.j2 k2 ji5 x10_2 (!t173) s0_0 t171 x173000_2 x173001_2) = some (r1, r2, r3) := H
          have A41 := Aside0.mk A410
          clear A410
          have H' := Aside0.mk H
          clear H
          have hnb42 := NB172_152.out
          have hnc42 := NB152_172.out
          have hnb43 := NB172_0.out
          have hnc43 := NB0_172.out
          have hcz44_0 := zc0 BK172
          have hcz44_1 := zc1 BK172
          have hfz44_0 := blk_frozen BK172.out 0
          have hfz44_1 := blk_frozen BK172.out 1
          obtain ⟨Ao45, co45, eo45, _⟩ := Kd.Q_slice HO_173000.out
          subst eo45
          obtain ⟨Ao46, co46, eo46⟩ := Kd.R_slice HO_173001.out
          subst eo46
          go_wp2_with (first | (go_at_call 40; (with_reducible refine (spec_MapValid.calls k2 _ _ x173000_2 _ _ x173001_2 t173 _ ?side1 ?side2 ?side3 ?side4 A41.out).mono ?_); (case side1 => exact cP (Kd.Q_reads' HO_173000.out).2.2); (case side2 => exact (Kd.Q_reads' HO_173000.out).2.1); (case side3 => exact cP (Kd.R_reads' HO_173001.out).2.2); (case side4 => exact (Kd.R_reads' HO_173001.out).2.1); rintro e w47 ⟨rfl, hb⟩; replace HO_173000 := Aside0.mk (Kd.Q_below (by (with_reducible repeat (first | apply Kd.Q_alloc | apply Kd.Q_drewN | apply Kd.Q_drew)); exact HO_173000.out) hb); replace HO_173001 := rB HO_173001 hb; replace BK152 := kB BK152 hb; replace BK172 := kB BK172 hb; replace HK := Aside0.mk (KeepBut.trans (by repeat (first | (with_reducible first | exact HK.out | apply KeepBut.set_ | apply keep_drewN | apply keep_drew | apply keep_alloc | refine keep_far ?_ GW152.out _ | refine keep_far ?_ GW172.out _) | exact HK.out)) (KeepBut.of_below hb g none) (.inl rfl)); replace HB := Aside0.mk (below_step (by repeat (first | (with_reducible first | exact HB.out | apply below_alloc | apply pw_below_drewN | apply below_drew1 | refine below_set ?_ (IsS70.ge HI0.out) | refine below_set ?_ GE152.out | refine below_set ?_ GE172.out) | exact HB.out)) hb); replace HI0 := Aside0.mk (IsS70.below (by repeat (first | (with_reducible first | exact HI0.out | apply IsS70.alloc | apply IsS70.drewN | apply IsS70.drew | apply IsS70.set_1 | refine IsS70.far ?_ NB0_152.out _ | refine IsS70.far ?_ NB0_172.out _) | exact HI0.out)) hb); (try clear hb); (try clear hb2); (try clear hk); (try clear hi)))
          go_meet
          case rel => exact ⟨_, (!t173), eS, H', ⟨by have := HK1.out; have := HK2.out; first | omega | exact Nat.le_refl _⟩, ⟨by (with_reducible repeat (first | apply Kd.Q_alloc | apply Kd.Q_drewN | apply Kd.Q_drew)); exact HO_173000.out⟩, ⟨rP HO_173001⟩, ⟨kP BK152⟩, ⟨kP BK172⟩, ⟨by repeat (first | (with_reducible first | exact HI0.out | apply IsS70.alloc | apply IsS70.drewN | apply IsS70.drew | apply IsS70.set_1 | refine IsS70.far ?_ NB0_152.out _ | refine IsS70.far ?_ NB0_172.out _) | exact HI0.out)⟩, ⟨by repeat (first | (with_reducible first | exact HK.out | apply KeepBut.set_ | apply keep_drewN | apply keep_drew | apply keep_alloc | refine keep_far ?_ GW152.out _ | refine keep_far ?_ GW172.out _) | exact HK.out)⟩, ⟨by repeat (first | (with_reducible first | exact HB.out | apply below_alloc | apply pw_below_drewN | apply below_drew1 | refine below_set ?_ (IsS70.ge HI0.out) | refine below_set ?_ GE152.out | refine below_set ?_ GE172.out) | exact HB.out)⟩⟩
         ·rw [if_neg c40] at H
          have c40b0 : decide (x10_2 < ji5) = false := decide_eq_false c40
          clear c40
          (first | rw [c40b0] | (simp only [i64_w, i32_w]; rw [c40b0]) | skip)
          have H' := Aside0.mk H
          clear H
          go_wp2
          go_meet
          case rel => exact ⟨_, (false), eS, H', ⟨by have := HK1.out; have := HK2.out; first | omega | exact Nat.le_refl _⟩, ⟨by (with_reducible repeat (first | apply Kd.Q_alloc | apply Kd.Q_drewN | apply Kd.Q_drew)); exact HO_173000.out⟩, ⟨rP HO_173001⟩, ⟨kP BK152⟩, ⟨kP BK172⟩, ⟨by repeat (first | (with_reducible first | exact HI0.out | apply IsS70.alloc | apply IsS70.drewN | apply IsS70.drew | apply IsS70.set_1 | refine IsS70.far ?_ NB0_152.out _ | refine IsS70.far ?_ NB0_172.out _) | exact HI0.out)⟩, ⟨by repeat (first | (with_reducible first | exact HK.out | apply KeepBut.set_ | apply keep_drewN | apply keep_drew | apply keep_alloc | refine keep_far ?_ GW152.out _ | refine keep_far ?_ GW172.out _) | exact HK.out)⟩, ⟨by repeat (first | (with_reducible first | exact HB.out | apply below_alloc | apply pw_below_drewN | apply below_drew1 | refine below_set ?_ (IsS70.ge HI0.out) | refine below_set ?_ GE152.out | refine below_set ?_ GE172.out) | exact HB.out)⟩⟩
        case rest =>
         clear HC39
         try clear c1
         try clear p1
         try clear q1
         try clear hx1
         try clear c2
         try clear p2
         try clear q2
         try clear hx2
         try clear hf2
         try clear c3
         try clear c4
         try clear c5
         try clear c6
         try clear c6b0
         try clear c6b1
         try clear p6
         try clear c7
         try clear c7b0
         try clear c7b1
         try clear c13
         try clear c13b0
         try clear c14
         try clear c14b0
         try clear c15
         try clear c15b0
         try clear p16
         try clear q16
         try clear hx16
         try clear c17
         try clear c17b0
         try clear c18
         try clear c18b0
         try clear c19
         try clear c19b0
         try clear c20
         try clear c20b0
         try clear p21
         try clear q21
         try clear hx21
         try clear hf21
         try clear c22
         try clear c22b0
         try clear c23
         try clear c23b0
         try clear p24
         try clear q24
         try clear hx24
         try clear hf24
         try clear c36
         try clear c37
         try clear c40
         try clear c40b0
         try clear c42
         try clear c43
         try clear hcz38_0
         try clear hcz38_1
         try clear hcz44_0
         try clear hcz44_1
         try clear hfz38_0
         try clear hfz38_1
         try clear hfz44_0
         try clear hfz44_1
         try clear hx162_0
         try clear hx163_0
         try clear hx165_0
         try clear hx166_0
         try clear hx21_0
         try clear hx24_0
         try clear p1
         try clear p16
         try clear p162
         try clear p163
         try clear p165
         try clear p166
         try clear p2
         try clear p21
         try clear p24
         try clear p6
         try clear q1
         try clear q16
         try clear q162
         try clear q163
         try clear q165
         try clear q166
         try clear q2
         try clear q21
         try clear q24
         obtain ⟨kq, x64_38, rfl, HA, HJ38, HO_173000, HO_173001, BK152, BK172, HI0, HK, HB⟩ := hcut
         cases kq with
         | zero => exact absurd HA.out (by simp [spec_l91Map.j2])
         | succ kj38 =>
          have H := HA.out
          clear HA
          simp only [spec_l91Map.j2] at H
          by_cases c48 : x64_38 = true
          ·subst c48
           have H1 : ((spec_l1Orbits.f kj38 x173000_2 x173001_2).bind fun t174 => (spec_l91Map.l2 kj38 ji5 x10_2 t174 0 s0_0 t171 x173000_2 x173001_2)) = some (r1, r2, r3) := by rw [if_pos rfl] at H; exact H
           clear H
           have H := H1
           clear H1
           replace H := Option.bind_eq_some_iff.mp H
           obtain ⟨t174, A490, H⟩ := H
           replace H : (spec_l91Map.l2 kj38 ji5 x10_2 t174 0 s0_0 t171 x173000_2 x173001_2) = some (r1, r2, r3) := H
           have A49 := Aside0.mk A490
           clear A490
           have H' := Aside0.mk H
           clear H
           have hnb50 := NB172_152.out
           have hnc50 := NB152_172.out
           have hnb51 := NB172_0.out
           have hnc51 := NB0_172.out
           have hcz52_0 := zc0 BK172
           have hcz52_1 := zc1 BK172
           have hfz52_0 := blk_frozen BK172.out 0
           have hfz52_1 := blk_frozen BK172.out 1
           obtain ⟨Ao53, co53, eo53, _⟩ := Kd.Q_slice HO_173000.out
           subst eo53
           obtain ⟨Ao54, co54, eo54⟩ := Kd.R_slice HO_173001.out
           subst eo54
           go_wp2_with (first | ((with_reducible refine gate_callee (f := 63) rfl ?_); refine gL (some 71) Try.func63 #[.slice Ao53 x173000_2.length co53, .slice Ao54 x173001_2.length co54] ?_; (with_reducible refine (spec_l1Orbits.calls kj38 _ _ x173000_2 _ _ x173001_2 t174 _ ?side1 ?side2 ?side3 ?side4 A49.out).mono ?_); (case side1 => exact cP (Kd.Q_reads' HO_173000.out).2.2); (case side2 => exact (Kd.Q_reads' HO_173000.out).2.1); (case side3 => exact cP (Kd.R_reads' HO_173001.out).2.2); (case side4 => exact (Kd.R_reads' HO_173001.out).2.1); rintro e w55 ⟨v175, rfl, ho0, hb⟩; refine ⟨_, rfl, ?_⟩; have HO176 := Aside0.mk (Kd.R_lower (Kd.R_new' (Kd.R_new' ho0 (Kd.Q_lt (by (with_reducible repeat (first | apply Kd.Q_alloc | apply Kd.Q_drewN | apply Kd.Q_drew)); exact HO_173000.out))) (Kd.R_lt (rP HO_173001))) (keep_size (w := w) (g := g) (row := none) (by repeat (first | (with_reducible first | exact HK.out | apply KeepBut.set_ | apply keep_drewN | apply keep_drew | apply keep_alloc | refine keep_far ?_ GW152.out _ | refine keep_far ?_ GW172.out _) | exact HK.out)))); replace HO_173000 := Aside0.mk (Kd.Q_elder' (by (with_reducible repeat (first | apply Kd.Q_alloc | apply Kd.Q_drewN | apply Kd.Q_drew)); exact HO_173000.out) (Kd.R_base ho0) hb); replace HO_173001 := Aside0.mk (Kd.R_elder' (rP HO_173001) (Kd.R_base ho0) hb); replace BK152 := kB BK152 hb; replace BK172 := kB BK172 hb; replace HK := Aside0.mk (KeepBut.trans (by repeat (first | (with_reducible first | exact HK.out | apply KeepBut.set_ | apply keep_drewN | apply keep_drew | apply keep_alloc | refine keep_far ?_ GW152.out _ | refine keep_far ?_ GW172.out _) | exact HK.out)) (KeepBut.of_below hb g none) (.inl rfl)); replace HB := Aside0.mk (below_step (by repeat (first | (with_reducible first | exact HB.out | apply below_alloc | apply pw_below_drewN | apply below_drew1 | refine below_set ?_ (IsS70.ge HI0.out) | refine below_set ?_ GE152.out | refine below_set ?_ GE172.out) | exact HB.out)) hb); replace HI0 := Aside0.mk (IsS70.below (by repeat (first | (with_reducible first | exact HI0.out | apply IsS70.alloc | apply IsS70.drewN | apply IsS70.drew | apply IsS70.set_1 | refine IsS70.far ?_ NB0_152.out _ | refine IsS70.far ?_ NB0_172.out _) | exact HI0.out)) hb); (try clear hb); (try clear hb2); (try clear hk); (try clear hi); (try clear ho0)))
           go_loopg [12] kj38 (fun kq v12 w' => ∃ (x12_4 : Int), v12 = .int .i64 x12_4 ∧ Aside0 (spec_l91Map.l2 kq ji5 x10_2 t174 x12_4 s0_0 t171 x173000_2 x173001_2 = some (r1, r2, r3)) ∧ Aside0 (kq ≤ kj38) ∧ Aside0 (Kd.R (Kd.int .i64) 3 w' w.heap.size (fun k_ => some k_ ≠ ((.slice Ao53 x173000_2.length co53) : Value).ownBlock ∧ some k_ ≠ ((.slice Ao54 x173001_2.length co54) : Value).ownBlock) v175 t174) ∧ Aside0 (Kd.Q (Kd.int .i64) 3 w' w.heap.size (fun k_ => some k_ ≠ (v175 : Value).ownBlock ∧ some k_ ≠ ((.slice Ao54 x173001_2.length co54) : Value).ownBlock) (.slice Ao53 x173000_2.length co53) x173000_2) ∧ Aside0 (Kd.R (Kd.int .i64) 3 w' w.heap.size (fun k_ => some k_ ≠ (v175 : Value).ownBlock ∧ some k_ ≠ ((.slice Ao53 x173000_2.length co53) : Value).ownBlock) (.slice Ao54 x173001_2.length co54) x173001_2) ∧ Aside0 (w'.heap[gb152]? = some (.cells #[(.slice none 0 0), (.slice none 0 0)] 25 (0, 0))) ∧ Aside0 (w'.heap[gb172]? = some (.cells #[(.slice Ao53 x173000_2.length co53), (.slice Ao54 x173001_2.length co54)] 25 (0, 0))) ∧ Aside0 (IsS70 w0 w' g s0_0 t171) ∧ Aside0 (KeepBut w w' g none) ∧ Aside0 (Below w0.heap.size w0 w'))
           case atStart => exact ⟨(0), eS, H', ⟨Nat.le_refl _⟩, ⟨by (with_reducible repeat (first | apply Kd.R_alloc | apply Kd.R_drewN | apply Kd.R_drew)); exact Kd.R_mono HO176.out (fun _ hk => ⟨hk.1.2, hk.2⟩)⟩, ⟨by (with_reducible repeat (first | apply Kd.Q_alloc | apply Kd.Q_drewN | apply Kd.Q_drew)); exact Kd.Q_mono HO_173000.out (fun _ hk => ⟨hk.2, hk.1⟩)⟩, ⟨by (with_reducible repeat (first | apply Kd.R_alloc | apply Kd.R_drewN | apply Kd.R_drew)); exact Kd.R_mono HO_173001.out (fun _ hk => ⟨hk.2, hk.1⟩)⟩, ⟨kP BK152⟩, ⟨kP BK172⟩, ⟨by repeat (first | (with_reducible first | exact HI0.out | apply IsS70.alloc | apply IsS70.drewN | apply IsS70.drew | apply IsS70.set_1 | refine IsS70.far ?_ NB0_152.out _ | refine IsS70.far ?_ NB0_172.out _) | exact HI0.out)⟩, ⟨by repeat (first | (with_reducible first | exact HK.out | apply KeepBut.set_ | apply keep_drewN | apply keep_drew | apply keep_alloc | refine keep_far ?_ GW152.out _ | refine keep_far ?_ GW172.out _) | exact HK.out)⟩, ⟨by repeat (first | (with_reducible first | exact HB.out | apply below_alloc | apply pw_below_drewN | apply below_drew1 | refine below_set ?_ (IsS70.ge HI0.out) | refine below_set ?_ GE152.out | refine below_set ?_ GE172.out) | exact HB.out)⟩⟩
           case round =>
            clear H'
            try clear c1
            try clear p1
            try clear q1
            try clear hx1
            try clear c2
            try clear p2
            try clear q2
            try clear hx2
            try clear hf2
            try clear c3
            try clear c4
            try clear c5
            try clear c6
            try clear c6b0
            try clear c6b1
            try clear p6
            try clear c7
            try clear c7b0
            try clear c7b1
            try clear c13
            try clear c13b0
            try clear c14
            try clear c14b0
            try clear c15
            try clear c15b0
            try clear p16
            try clear q16
            try clear hx16
            try clear c17
            try clear c17b0
            try clear c18
            try clear c18b0
            try clear c19
            try clear c19b0
            try clear c20
            try clear c20b0
            try clear p21
            try clear q21
            try clear hx21
            try clear hf21
            try clear c22
            try clear c22b0
            try clear c23
            try clear c23b0
            try clear p24
            try clear q24
            try clear hx24
            try clear hf24
            try clear c36
            try clear c37
            try clear c40
            try clear c40b0
            try clear c42
            try clear c43
            try clear c48
            try clear c50
            try clear c51
            try clear hcz38_0
            try clear hcz38_1
            try clear hcz44_0
            try clear hcz44_1
            try clear hcz52_0
            try clear hcz52_1
            try clear hfz38_0
            try clear hfz38_1
            try clear hfz44_0
            try clear hfz44_1
            try clear hfz52_0
            try clear hfz52_1
            try clear hx162_0
            try clear hx163_0
            try clear hx165_0
            try clear hx166_0
            try clear hx21_0
            try clear hx24_0
            try clear p1
            try clear p16
            try clear p162
            try clear p163
            try clear p165
            try clear p166
            try clear p2
            try clear p21
            try clear p24
            try clear p6
            try clear q1
            try clear q16
            try clear q162
            try clear q163
            try clear q165
            try clear q166
            try clear q2
            try clear q21
            try clear q24
            obtain ⟨x12_4, rfl, HA, HK4, HO_11, HO_173000, HO_173001, BK152, BK172, HI0, HK, HB⟩ := hrel
            cases gk with
            | zero => exact absurd HA.out (by simp [spec_l91Map.l2])
            | succ k4 =>
             have H := HA.out
             clear HA
             simp only [spec_l91Map.l2] at H
             by_cases c56 : 0 ≤ x12_4
             ·rw [if_pos c56] at H
              have c56b0 : decide (0 ≤ x12_4) = true := decide_eq_true c56
              clear c56
              by_cases c57 : x12_4 < (t174.length : Int)
              ·rw [if_pos c57] at H
               have c57b0 : decide (x12_4 < (t174.length : Int)) = true := decide_eq_true c57
               clear c57
               by_cases c58 : (rd t174 x12_4) = 0
               ·rw [if_pos c58] at H
                have c58b0 : ((rd t174 x12_4) == 0) = true := beq_iff_eq.mpr c58
                have c58b1 : ((rd t174 x12_4) != 0) = false := bne_eq_false_iff_eq.mpr c58
                clear c58
                have H' := Aside0.mk H
                clear H
                obtain ⟨Ao59, co59, eo59⟩ := Kd.R_slice HO_11.out
                subst eo59
                have p177 : 0 ≤ (x12_4 : Int) := dT
                have q177 : x12_4 < (t174.length : Int) := dT
                obtain ⟨ad177, e177, hx177_0⟩ := Kd.at_int (Kd.R_reads' HO_11.out).2.2 x12_4 p177 q177
                cases e177
                replace p177 := eq_true p177
                replace q177 := eq_true q177
                go_wp2
                go_roundg k4
                case measure => have := HK1.out; have := HK2.out; have := HJ38.out; have := HK4.out; omega
                case rel => exact ⟨(wrap64 (x12_4 + 1)), eS, H', ⟨by have := HK1.out; have := HK2.out; have := HJ38.out; have := HK4.out; omega⟩, ⟨rP HO_11⟩, ⟨by (with_reducible repeat (first | apply Kd.Q_alloc | apply Kd.Q_drewN | apply Kd.Q_drew)); exact HO_173000.out⟩, ⟨rP HO_173001⟩, ⟨kP BK152⟩, ⟨kP BK172⟩, ⟨by repeat (first | (with_reducible first | exact HI0.out | apply IsS70.alloc | apply IsS70.drewN | apply IsS70.drew | apply IsS70.set_1 | refine IsS70.far ?_ NB0_152.out _ | refine IsS70.far ?_ NB0_172.out _) | exact HI0.out)⟩, ⟨by repeat (first | (with_reducible first | exact HK.out | apply KeepBut.set_ | apply keep_drewN | apply keep_drew | apply keep_alloc | refine keep_far ?_ GW152.out _ | refine keep_far ?_ GW172.out _) | exact HK.out)⟩, ⟨by repeat (first | (with_reducible first | exact HB.out | apply below_alloc | apply pw_below_drewN | apply below_drew1 | refine below_set ?_ (IsS70.ge HI0.out) | refine below_set ?_ GE152.out | refine below_set ?_ GE172.out) | exact HB.out)⟩⟩
               ·rw [if_neg c58] at H
                have c58b0 : ((rd t174 x12_4) == 0) = false := beq_eq_false_iff_ne.mpr c58
                have c58b1 : ((rd t174 x12_4) != 0) = true := bne_iff_ne.mpr c58
                by_cases c60 : 0 < (x173000_2.length : Int)
                ·rw [if_pos c60] at H
                 have c60b0 : decide (0 < (x173000_2.length : Int)) = true := decide_eq_true c60
                 have c60b1 : decide (0 < x173000_2.length) = true := decide_eq_true (by omega)
                 clear c60
                 by_cases c61 : x12_4 < (x173000_2.length : Int)
                 ·rw [if_pos c61] at H
                  have c61b0 : decide (x12_4 < (x173000_2.length : Int)) = true := decide_eq_true c61
                  clear c61
                  obtain ⟨y180, hy180⟩ : ∃ y_ : List Int, y_ = (x173000_2.set (0 : Int).toNat (rd x173000_2 x12_4)) := ⟨_, rfl⟩
                  replace H : (spec_l91Map.l1 k4 ji5 (wrap64 (x10_2 + 1)) s0_0 t171 (y180.set (x12_4 : Int).toNat (rd x173000_2 0)) x173001_2) = some (r1, r2, r3) := by first | (rw [hy180]; with_reducible exact H) | (have H2_ := (Option.bind_some _ _).symm.trans H; rw [hy180]; with_reducible exact H2_) | (have H2_ := (Option.bind_some _ _).symm.trans H; with_reducible exact H2_) | with_reducible exact H | (rw [hy180]; exact H) | exact H
                  have Ny180 := Aside0.mk hy180
                  clear hy180
                  obtain ⟨y181, hy181⟩ : ∃ y_ : List Int, y_ = (y180.set (x12_4 : Int).toNat (rd x173000_2 0)) := ⟨_, rfl⟩
                  replace H : (spec_l91Map.l1 k4 ji5 (wrap64 (x10_2 + 1)) s0_0 t171 y181 x173001_2) = some (r1, r2, r3) := by first | (rw [hy181]; with_reducible exact H) | (have H2_ := (Option.bind_some _ _).symm.trans H; rw [hy181]; with_reducible exact H2_) | (have H2_ := (Option.bind_some _ _).symm.trans H; with_reducible exact H2_) | with_reducible exact H | (rw [hy181]; exact H) | exact H
                  have Ny181 := Aside0.mk hy181
                  clear hy181
                  have H' := Aside0.mk H
                  clear H
                  obtain ⟨Ao64, co64, eo64⟩ := Kd.R_slice HO_11.out
                  subst eo64
                  have p177 : 0 ≤ (x12_4 : Int) := dT
                  have q177 : x12_4 < (t174.length : Int) := dT
                  obtain ⟨ad177, e177, hx177_0⟩ := Kd.at_int (Kd.R_reads' HO_11.out).2.2 x12_4 p177 q177
                  cases e177
                  replace p177 := eq_true p177
                  replace q177 := eq_true q177
                  have hnb65 := NB172_152.out
                  have hnc65 := NB152_172.out
                  have hnb66 := NB172_0.out
                  have hnc66 := NB0_172.out
                  have hcz67_0 := zc0 BK172
                  have hcz67_1 := zc1 BK172
                  have hfz67_0 := blk_frozen BK172.out 0
                  have hfz67_1 := blk_frozen BK172.out 1
                  have p178 : 0 ≤ (0 : Int) := (by omega)
                  have q178 : 0 < (x173000_2.length : Int) := dT
                  obtain ⟨ad178, e178, hx178_0⟩ := Kd.at_int (Kd.Q_reads' HO_173000.out).2.2 0 p178 q178
                  cases e178
                  have qi178 : (0 < x173000_2.length) = True := eq_true (by omega)
                  (try rw [show ((0 : Int)).toNat = 0 from rfl] at hx178_0)
                  (try rw [Addr.add_zero'] at hx178_0)
                  replace p178 := eq_true p178
                  replace q178 := eq_true q178
                  try go_wp2
                  have n0_ := Aside0.mk (Kd.R_drew HO_11.out)
                  have n1_ := Aside0.mk (Kd.Q_drew HO_173000.out)
                  have n2_ := Aside0.mk (Kd.R_drew HO_173001.out)
                  have n3_ := Aside0.mk (blk_drew BK152.out)
                  have n4_ := Aside0.mk (blk_drew BK172.out)
                  have n5_ := Aside0.mk (IsS70.drew HI0.out)
                  have n6_ := Aside0.mk (keep_drew HK.out)
                  have n7_ := Aside0.mk (below_drew1 HB.out)
                  clear HO_11
                  clear HO_173000
                  clear HO_173001
                  clear BK152
                  clear BK172
                  clear HI0
                  clear HK
                  clear HB
                  have HO_11 := n0_
                  have HO_173000 := n1_
                  have HO_173001 := n2_
                  have BK152 := n3_
                  have BK172 := n4_
                  have HI0 := n5_
                  have HK := n6_
                  have HB := n7_
                  clear n0_ n1_ n2_ n3_ n4_ n5_ n6_ n7_
                  have p179 : 0 ≤ (x12_4 : Int) := dT
                  have q179 : x12_4 < (x173000_2.length : Int) := dT
                  obtain ⟨ad179, e179, hx179_0⟩ := Kd.at_int (Kd.Q_reads' HO_173000.out).2.2 x12_4 p179 q179
                  obtain rfl : ad178 = ad179 := (by injection e179)
                  replace p179 := eq_true p179
                  replace q179 := eq_true q179
                  have p62 : 0 ≤ (0 : Int) := (by omega)
                  have q62 : (0 : Int) < ((x173000_2.length : Int) : Int) := dT
                  have qi62 : (0 < x173000_2.length) = True := eq_true (by omega)
                  obtain ⟨go62, oo62, co62, eo62, gb62, gl62, cl62, HG62⟩ := Kd.Q_form HO_173000.out (by omega)
                  (first | cases eo62 | (injection eo62 with ea_ en_ ec_; (first | subst ea_ | (injection ea_ with ea_; subst ea_)); subst ec_; clear en_))
                  have GB62 := Aside0.mk gb62
                  have GG62 := Aside0.mk HG62
                  clear gb62 gl62 HG62
                  (first | simp only [add_at] at hx178_0 | skip)
                  (first | simp only [add_at] at hx179_0 | skip)
                  obtain ⟨hx62_0, hf62_0⟩ := Kd.Q_cell 0 HO_173000.out (0 : Int) p62 q62
                  (try rw [show ((0 : Int)).toNat = 0 from rfl] at hx62_0)
                  (try simp only [Nat.reduceMul, Nat.zero_mul, Nat.zero_add, Nat.reduceAdd, Nat.add_zero] at hx62_0)
                  (try rw [show ((0 : Int)).toNat = 0 from rfl] at hf62_0)
                  (try simp only [Nat.reduceMul, Nat.zero_mul, Nat.zero_add, Nat.reduceAdd, Nat.add_zero] at hf62_0)
                  replace p62 := eq_true p62
                  replace q62 := eq_true q62
                  have HN0_go62 := Aside0.mk (show g ≠ go62 from by have h_ := IsS70.own_neQ HI0.out HO_173000.out (by decide); intro e_; exact h_ (by rw [e_]; rfl))
                  have HP69 := (Kd.Q_putg HO_173000.out (0 : Int) (by omega) (by have h_ : (0 : Int) < ((x173000_2.length : Int) : Int) := dT; first | exact h_ | (have e_ := (Kd.Q_reads' HO_173000.out).1; omega) | simpa using h_) (rd x173000_2 x12_4)).1
                  rw [← Ny180.out] at HP69
                  have HQ69 := Aside0.mk HP69
                  clear HP69
                  refine start_ (n := 9) (S := fun w' => w'.cell? ⟨gb172, 0, none⟩ = some (.slice (some ⟨go62, oo62, none⟩) x173000_2.length co53) ∧ w'.cell? ⟨gb172, 1, none⟩ = some (.slice Ao54 x173001_2.length co54) ∧ w'.cell? ⟨go62, oo62 + (x12_4).toNat, none⟩ = some (.int .i64 (rd x173000_2 x12_4))) (ds := [8]) #[false, false, false, false, false, false, false, false, false] (by kernel_rfl) rfl rfl ⟨(blk_cell BK172.out 0).trans rfl, (blk_cell BK172.out 1).trans rfl, hx179_0⟩ (fun hHeld => ?_); refine with_tabW spec_l91Map.tab18 spec_l91Map.bits18 (fun HT_ HW_ => ?_)
                  generalize wr.drew = w68 at HO_11 HO_173000 HO_173001 BK152 BK172 HI0 HK HB GG62 HQ69 hf62_0 hx178_0 hx179_0 hx62_0 hHeld ⊢
                  refine pure_ (i := 0) (N := some 83) (v := ?_) (a' := ?_) #[true, false, false, false, false, false, false, false, false] rfl rfl (any_of HT_.out (by kernel_rfl)) (fun _ _ _ h => h) (Or.inl ⟨by rfl, ?_⟩) ?_ ?_
                  rotate_left
                  ·intro w'
                   go_simp
                   with_reducible rfl
                  rotate_left
                  ·simp only [Act.put, List.setIfInBounds_toArray, List.set_cons_zero, List.set_cons_succ, i64_w, i32_w]
                   rfl
                  refine pure_ (i := 2) (N := some 85) (v := ?_) (a' := ?_) #[true, false, true, false, false, false, false, false, false] rfl rfl (any_of HT_.out (by kernel_rfl)) (fun _ _ _ h => h) (Or.inl ⟨by rfl, ?_⟩) ?_ ?_
                  rotate_left
                  ·intro w'
                   go_simp
                   with_reducible rfl
                  rotate_left
                  ·simp only [Act.put, List.setIfInBounds_toArray, List.set_cons_zero, List.set_cons_succ, i64_w, i32_w]
                   rfl
                  refine pure_ (i := 4) (N := some 87) (v := ?_) (a' := ?_) #[true, false, true, false, true, false, false, false, false] rfl rfl (any_of HT_.out (by kernel_rfl)) (fun _ _ _ h => h) (Or.inl ⟨by rfl, ?_⟩) ?_ ?_
                  rotate_left
                  ·intro w'
                   go_simp
                   with_reducible rfl
                  rotate_left
                  ·simp only [Act.put, List.setIfInBounds_toArray, List.set_cons_zero, List.set_cons_succ, i64_w, i32_w]
                   rfl
                  refine take_ (i := 1) (N := some 84) (v := ?_) (a' := ?_) #[true, true, true, false, true, false, false, false, false] rfl rfl (take_ofW HT_.out HW_.out (by kernel_rfl)) (fun _ _ _ h => h) (Or.inl ⟨by rfl, ?_⟩) hHeld ?_ ?_
                  rotate_left
                  ·rintro w' ⟨s0, s1, s2⟩
                   go_simp
                   with_reducible rfl
                  rotate_left
                  ·simp only [Act.put, List.setIfInBounds_toArray, List.set_cons_zero, List.set_cons_succ, i64_w, i32_w]
                   rfl
                  refine take_ (i := 3) (N := some 86) (v := ?_) (a' := ?_) #[true, true, true, true, true, false, false, false, false] rfl rfl (take_ofW HT_.out HW_.out (by kernel_rfl)) (fun _ _ _ h => h) (Or.inl ⟨by rfl, ?_⟩) hHeld ?_ ?_
                  rotate_left
                  ·rintro w' ⟨s0, s1, s2⟩
                   go_simp
                   with_reducible rfl
                  rotate_left
                  ·simp only [Act.put, List.setIfInBounds_toArray, List.set_cons_zero, List.set_cons_succ, i64_w, i32_w]
                   rfl
                  refine pure_ (i := 5) (N := some 88) (v := ?_) (a' := ?_) #[true, true, true, true, true, true, false, false, false] rfl rfl (any_of HT_.out (by kernel_rfl)) (fun _ _ _ h => h) (Or.inl ⟨by rfl, ?_⟩) ?_ ?_
                  rotate_left
                  ·intro w'
                   go_simp
                   with_reducible rfl
                  rotate_left
                  ·simp only [Act.put, List.setIfInBounds_toArray, List.set_cons_zero, List.set_cons_succ, i64_w, i32_w]
                   rfl
                  refine take_ (i := 6) (N := some 89) (v := ?_) (a' := ?_) #[true, true, true, true, true, true, true, false, false] rfl rfl (take_ofW HT_.out HW_.out (by kernel_rfl)) (fun _ _ _ h => h) (Or.inl ⟨by rfl, ?_⟩) hHeld ?_ ?_
                  rotate_left
                  ·rintro w' ⟨s0, s1, s2⟩
                   go_simp
                   with_reducible rfl
                  rotate_left
                  ·simp only [Act.put, List.setIfInBounds_toArray, List.set_cons_zero, List.set_cons_succ, i64_w, i32_w]
                   rfl
                  refine pure_ (i := 7) (N := some 90) (v := ?_) (a' := ?_) #[true, true, true, true, true, true, true, true, false] rfl rfl (any_of HT_.out (by kernel_rfl)) (fun _ _ _ h => h) (Or.inl ⟨by rfl, ?_⟩) ?_ ?_
                  rotate_left
                  ·intro w'
                   go_simp
                   with_reducible rfl
                  rotate_left
                  ·simp only [Act.put, List.setIfInBounds_toArray, List.set_cons_zero, List.set_cons_succ, i64_w, i32_w]
                   rfl
                  refine last_ (i := 8) (N := none) #[true, true, true, true, true, true, true, true, true] rfl rfl (one_of HT_.out (by kernel_rfl)) (by decide) (fun K hK => ?_)
                  refine skip_ (w1 := ?_) (by rfl) rfl ?_ ?_
                  rotate_left
                  ·go_simp
                   rfl
                  refine hK.out _ _ ?_
                  clear hK K
                  refine done_ (done_of HT_.out (by kernel_rfl)) ?_
                  have n0_ : Aside0 (Kd.R (Kd.int .i64) 3 (w68.setCell ⟨go62, oo62, none⟩ (.int .i64 (rd x173000_2 x12_4))) w.heap.size (fun k_ => some k_ ≠ (.slice (some ⟨go62, oo62, none⟩) x173000_2.length co53 : Value).ownBlock ∧ some k_ ≠ (.slice Ao54 x173001_2.length co54 : Value).ownBlock) (.slice (some ad177) t174.length co64) t174) := ⟨by (with_reducible repeat (first | apply Kd.R_alloc | apply Kd.R_drewN | apply Kd.R_drew)); exact Kd.R_mono (Kd.R_far (p := ⟨go62, oo62, none⟩) (Kd.R_mono HO_11.out (fun k_ hk => (⟨hk, fun e_ => hk.1 (by rw [e_]; rfl)⟩ : _ ∧ k_ ≠ go62))) (fun _ hk => hk.2) (.int .i64 (rd x173000_2 x12_4))) (fun _ hk => ⟨hk.1.1, hk.1.2⟩)⟩
                  have n1_ : Aside0 (Kd.Q (Kd.int .i64) 3 (w68.setCell ⟨go62, oo62, none⟩ (.int .i64 (rd x173000_2 x12_4))) w.heap.size (fun k_ => some k_ ≠ (.slice (some ad177) t174.length co64 : Value).ownBlock ∧ some k_ ≠ (.slice Ao54 x173001_2.length co54 : Value).ownBlock) (.slice (some ⟨go62, oo62, none⟩) x173000_2.length co53) y180) := ⟨by (with_reducible repeat (first | apply Kd.Q_alloc | apply Kd.Q_drewN | apply Kd.Q_drew)); exact HQ69.out⟩
                  have n2_ : Aside0 (Kd.R (Kd.int .i64) 3 (w68.setCell ⟨go62, oo62, none⟩ (.int .i64 (rd x173000_2 x12_4))) w.heap.size (fun k_ => some k_ ≠ (.slice (some ad177) t174.length co64 : Value).ownBlock ∧ some k_ ≠ (.slice (some ⟨go62, oo62, none⟩) x173000_2.length co53 : Value).ownBlock) (.slice Ao54 x173001_2.length co54) x173001_2) := ⟨by (with_reducible repeat (first | apply Kd.R_alloc | apply Kd.R_drewN | apply Kd.R_drew)); exact Kd.R_mono (Kd.R_far (p := ⟨go62, oo62, none⟩) (Kd.R_mono HO_173001.out (fun k_ hk => (⟨hk, fun e_ => hk.2 (by rw [e_]; rfl)⟩ : _ ∧ k_ ≠ go62))) (fun _ hk => hk.2) (.int .i64 (rd x173000_2 x12_4))) (fun _ hk => ⟨hk.1.1, hk.1.2⟩)⟩
                  have n3_ : Aside0 ((w68.setCell ⟨go62, oo62, none⟩ (.int .i64 (rd x173000_2 x12_4))).heap[gb152]? = some (.cells #[.slice none 0 0, .slice none 0 0] 25 (0, 0))) := ⟨by (with_reducible repeat (first | refine blk_drewN ?_ _ | refine blk_drew ?_ | refine blk_alloc ?_ _)); refine blk_far ?_ (by have h_ := Kd.Q_ne HO_173000.out BK152.out (by decide); intro e_; exact h_ (by rw [e_]; rfl)) _; (with_reducible repeat (first | refine blk_drewN ?_ _ | refine blk_drew ?_ | refine blk_alloc ?_ _)); exact BK152.out⟩
                  have n4_ : Aside0 ((w68.setCell ⟨go62, oo62, none⟩ (.int .i64 (rd x173000_2 x12_4))).heap[gb172]? = some (.cells #[.slice (some ⟨go62, oo62, none⟩) x173000_2.length co53, .slice Ao54 x173001_2.length co54] 25 (0, 0))) := ⟨by (with_reducible repeat (first | refine blk_drewN ?_ _ | refine blk_drew ?_ | refine blk_alloc ?_ _)); refine blk_far ?_ (by have h_ := Kd.Q_ne HO_173000.out BK172.out (by decide); intro e_; exact h_ (by rw [e_]; rfl)) _; (with_reducible repeat (first | refine blk_drewN ?_ _ | refine blk_drew ?_ | refine blk_alloc ?_ _)); exact BK172.out⟩
                  have n5_ : Aside0 (IsS70 w0 (w68.setCell ⟨go62, oo62, none⟩ (.int .i64 (rd x173000_2 x12_4))) g s0_0 t171) := ⟨by repeat (first | (with_reducible first | exact HI0.out | apply IsS70.alloc | apply IsS70.drewN | apply IsS70.drew | apply IsS70.set_1 | refine IsS70.far ?_ HN0_go62.out _ | refine IsS70.far ?_ NB0_152.out _ | refine IsS70.far ?_ NB0_172.out _) | exact HI0.out)⟩
                  have n6_ : Aside0 (KeepBut w (w68.setCell ⟨go62, oo62, none⟩ (.int .i64 (rd x173000_2 x12_4))) g none) := ⟨by repeat (first | (with_reducible first | exact HK.out | apply KeepBut.set_ | apply keep_drewN | apply keep_drew | apply keep_alloc | refine keep_far ?_ GB62.out _ | refine keep_far ?_ GW152.out _ | refine keep_far ?_ GW172.out _) | exact HK.out)⟩
                  have n7_ : Aside0 (Below w0.heap.size w0 (w68.setCell ⟨go62, oo62, none⟩ (.int .i64 (rd x173000_2 x12_4)))) := ⟨by repeat (first | (with_reducible first | exact HB.out | apply below_alloc | apply pw_below_drewN | apply below_drew1 | refine below_set ?_ (Nat.le_trans HL.out GB62.out) | refine below_set ?_ (IsS70.ge HI0.out) | refine below_set ?_ GE152.out | refine below_set ?_ GE172.out) | exact HB.out)⟩
                  (try clear HO_11)
                  (try clear HO_173000)
                  (try clear HO_173001)
                  (try clear BK152)
                  (try clear BK172)
                  (try clear HI0)
                  (try clear HK)
                  (try clear HB)
                  generalize (w68.setCell ⟨go62, oo62, none⟩ (.int .i64 (rd x173000_2 x12_4))) = w70 at n0_ n1_ n2_ n3_ n4_ n5_ n6_ n7_ ⊢
                  have HO_11 := n0_
                  have HO_173000 := n1_
                  have HO_173001 := n2_
                  have BK152 := n3_
                  have BK172 := n4_
                  have HI0 := n5_
                  have HK := n6_
                  have HB := n7_
                  clear n0_ n1_ n2_ n3_ n4_ n5_ n6_ n7_
                  have hcz71_0 := zc0 BK172
                  have hcz71_1 := zc1 BK172
                  have hfz71_0 := blk_frozen BK172.out 0
                  have hfz71_1 := blk_frozen BK172.out 1
                  have p63 : 0 ≤ (x12_4 : Int) := dT
                  have q63 : (x12_4 : Int) < ((x173000_2.length : Int) : Int) := dT
                  obtain ⟨hx63_0, hf63_0⟩ := Kd.Q_cell 0 HO_173000.out (x12_4 : Int) p63 q63
                  replace p63 := eq_true p63
                  replace q63 := eq_true q63
                  obtain ⟨hy72_, hz72_⟩ := Kd.Q_cell 0 HO_173000.out (x12_4 : Int) (dT) (dT)
                  have HP72 := Kd.Q_putg HO_173000.out (x12_4 : Int) (dT) (by have h_ : (x12_4 : Int) < ((x173000_2.length : Int) : Int) := dT; first | exact h_ | (have e_ := (Kd.Q_reads' HO_173000.out).1; omega) | simpa using h_) (rd x173000_2 0)
                  try go_wp2_with (first | ((with_reducible refine gate_store (t := 3) (p := 95) rfl ?_); refine store_event (t := 3) (p := 95) (v := ?vo_w73) (w1 := (w70.setCell ⟨go62, oo62 + (x12_4 : Int).toNat, none⟩ (.int .i64 (rd x173000_2 0)))) ?hg ?ho ?hn ?hr ?_; (case ho => rfl); (case hg => rfl); (case hn => rfl); (case hr => first | (go_simp; done) | (go_simp; rfl)); intro w73 hw; have hg : w70.grownBy w73 (some go62) := (by rw [hw]; exact HP72.2); have hp_ : Kd.Q (Kd.int .i64) 3 w73 w.heap.size (fun k_ => some k_ ≠ (.slice (some ad177) t174.length co64 : Value).ownBlock ∧ some k_ ≠ (.slice Ao54 x173001_2.length co54 : Value).ownBlock) (.slice (some ⟨go62, oo62, none⟩) x173000_2.length co53) y181 := (by rw [hw, Ny181.out]; exact HP72.1); clear HP72; replace HO_11 := Aside0.mk (Kd.R_after (v := (.slice (some ⟨go62, oo62, none⟩) x173000_2.length co53)) (v1 := (.slice (some ⟨go62, oo62, none⟩) x173000_2.length co53)) (ok := (fun k_ => some k_ ≠ (.slice Ao54 x173001_2.length co54 : Value).ownBlock)) (by (with_reducible repeat (first | apply Kd.R_alloc | apply Kd.R_drewN | apply Kd.R_drew)); exact Kd.R_mono HO_11.out (fun _ hk => ⟨hk.2, hk.1⟩)) hg (.inl rfl)); replace HO_173001 := Aside0.mk (Kd.R_after (v := (.slice (some ⟨go62, oo62, none⟩) x173000_2.length co53)) (v1 := (.slice (some ⟨go62, oo62, none⟩) x173000_2.length co53)) (ok := (fun k_ => some k_ ≠ (.slice (some ad177) t174.length co64 : Value).ownBlock)) (rP HO_173001) hg (.inl rfl)); replace BK152 := Aside0.mk (blk_grown (g := gb152) (o := .cells #[.slice none 0 0, .slice none 0 0] 25 (0, 0)) (kP BK152) hg (Kd.Q_ne HO_173000.out BK152.out (by decide))); replace BK172 := Aside0.mk (blk_grown (g := gb172) (o := .cells #[.slice (some ⟨go62, oo62, none⟩) x173000_2.length co53, .slice Ao54 x173001_2.length co54] 25 (0, 0)) (kP BK172) hg (Kd.Q_ne HO_173000.out BK172.out (by decide))); replace HI0 := Aside0.mk (IsS70.grown (by repeat (first | (with_reducible first | exact HI0.out | apply IsS70.alloc | apply IsS70.drewN | apply IsS70.drew | apply IsS70.set_1 | refine IsS70.far ?_ NB0_152.out _ | refine IsS70.far ?_ NB0_172.out _) | exact HI0.out)) hg (IsS70.own_neQ HI0.out HO_173000.out (by decide))); replace HB := Aside0.mk ((by rw [hw]; exact below_set (HB.out) (Nat.le_trans HL.out GB62.out) : Below w0.heap.size w0 w73)); replace HK := Aside0.mk (KeepBut.trans (by repeat (first | (with_reducible first | exact HK.out | apply KeepBut.set_ | apply keep_drewN | apply keep_drew | apply keep_alloc | refine keep_far ?_ GW152.out _ | refine keep_far ?_ GW172.out _) | exact HK.out)) (KeepBut.of_grown hg g) (Kd.Q_base2 HO_173000.out)); replace HO_173000 := Aside0.mk (hp_); clear hg hw hp_))
                  go_roundg k4
                  case measure => have := HK1.out; have := HK2.out; have := HJ38.out; have := HK4.out; omega
                  case rel => exact ⟨(wrap64 (x10_2 + 1)), (y181), (x173001_2), (.slice (some ⟨go62, oo62, none⟩) x173000_2.length co53), (.slice Ao54 x173001_2.length co54), eS, H', ⟨by have := HK1.out; have := HK2.out; have := HJ38.out; have := HK4.out; omega⟩, ⟨by (with_reducible repeat (first | apply Kd.Q_alloc | apply Kd.Q_drewN | apply Kd.Q_drew)); exact Kd.Q_mono HO_173000.out (fun _ hk => hk.2)⟩, ⟨by (with_reducible repeat (first | apply Kd.R_alloc | apply Kd.R_drewN | apply Kd.R_drew)); exact Kd.R_mono HO_173001.out (fun _ hk => hk.2)⟩, ⟨kP BK152⟩, ⟨kP BK172⟩, ⟨by repeat (first | (with_reducible first | exact HI0.out | apply IsS70.alloc | apply IsS70.drewN | apply IsS70.drew | apply IsS70.set_1 | refine IsS70.far ?_ NB0_152.out _ | refine IsS70.far ?_ NB0_172.out _) | exact HI0.out)⟩, ⟨by repeat (first | (with_reducible first | exact HK.out | apply KeepBut.set_ | apply keep_drewN | apply keep_drew | apply keep_alloc | refine keep_far ?_ GW152.out _ | refine keep_far ?_ GW172.out _) | exact HK.out)⟩, ⟨by repeat (first | (with_reducible first | exact HB.out | apply below_alloc | apply pw_below_drewN | apply below_drew1 | refine below_set ?_ (IsS70.ge HI0.out) | refine below_set ?_ GE152.out | refine below_set ?_ GE172.out) | exact HB.out)⟩⟩
                 ·rw [if_neg c61] at H
                  exact absurd H (by simp)
                ·rw [if_neg c60] at H
                 exact absurd H (by simp)
              ·rw [if_neg c57] at H
               exact absurd H (by simp)
             ·rw [if_neg c56] at H
              exact absurd H (by simp)
          ·replace c48 := Bool.eq_false_iff.mpr c48
           subst c48
           have H1 : ((spec_l6Rd_pick.f kj38 s0_0 t171 50).bind fun bt182 => (if bt182.1 = 0 then (if 0 < (x173001_2.length : Int) then (some (x173000_2, (x173001_2.set (0 : Int).toNat 0), bt182.2)) else (none)) else (if bt182.1 = 1 then (if 1 ≤ (x173000_2.length : Int) then (some ((x173000_2.drop (1 : Int).toNat), x173001_2, bt182.2)) else (none)) else (if bt182.1 = 2 then (if 0 < (x173000_2.length : Int) then (some ((x173000_2.set (0 : Int).toNat ji5), x173001_2, bt182.2)) else (none)) else (some (x173000_2, x173001_2, bt182.2)))))) = some (r1, r2, r3) := by rw [if_neg (show ¬ (false = true) by decide)] at H; exact H
           clear H
           have H := H1
           clear H1
           replace H := Option.bind_eq_some_iff.mp H
           obtain ⟨⟨t182, t183⟩, A740, H⟩ := H
           replace H : (if t182 = 0 then (if 0 < (x173001_2.length : Int) then (some (x173000_2, (x173001_2.set (0 : Int).toNat 0), t183)) else (none)) else (if t182 = 1 then (if 1 ≤ (x173000_2.length : Int) then (some ((x173000_2.drop (1 : Int).toNat), x173001_2, t183)) else (none)) else (if t182 = 2 then (if 0 < (x173000_2.length : Int) then (some ((x173000_2.set (0 : Int).toNat ji5), x173001_2, t183)) else (none)) else (some (x173000_2, x173001_2, t183))))) = some (r1, r2, r3) := H
           have A74 := Aside0.mk A740
           clear A740
           by_cases c75 : t182 = 0
           ·rw [if_pos c75] at H
            have c75b0 : (t182 == 0) = true := beq_iff_eq.mpr c75
            have c75b1 : (t182 != 0) = false := bne_eq_false_iff_eq.mpr c75
            clear c75
            by_cases c76 : 0 < (x173001_2.length : Int)
            ·rw [if_pos c76] at H
             have c76b0 : decide (0 < (x173001_2.length : Int)) = true := decide_eq_true c76
             have c76b1 : decide (0 < x173001_2.length) = true := decide_eq_true (by omega)
             clear c76
             obtain ⟨y184, hy184⟩ : ∃ y_ : List Int, y_ = (x173001_2.set (0 : Int).toNat 0) := ⟨_, rfl⟩
             replace H : (some (x173000_2, y184, t183)) = some (r1, r2, r3) := by first | (rw [hy184]; with_reducible exact H) | (have H2_ := (Option.bind_some _ _).symm.trans H; rw [hy184]; with_reducible exact H2_) | (have H2_ := (Option.bind_some _ _).symm.trans H; with_reducible exact H2_) | with_reducible exact H | (rw [hy184]; exact H) | exact H
             have Ny184 := Aside0.mk hy184
             clear hy184
             simp only [Option.some.injEq, Prod.mk.injEq] at H
             obtain ⟨rfl, rfl, rfl⟩ := H
             go_wp2_with (first | ((with_reducible refine gate_callee (f := 55) rfl ?_); refine gL (some 97) Try.func55 #[.pointer (some ⟨g, 0, none⟩), .int .i64 50] ?_; (with_reducible refine (spec_l6Rd_pick.calls kj38 g s0_0 t171 50 t182 t183 w0 _ ?side1 ?side2 A74.out).mono ?_); (case side1 => repeat (first | (with_reducible first | exact HI0.out | apply IsS70.alloc | apply IsS70.drewN | apply IsS70.drew | apply IsS70.set_1 | refine IsS70.far ?_ NB0_152.out _ | refine IsS70.far ?_ NB0_172.out _) | exact HI0.out)); (case side2 => repeat (first | (with_reducible first | exact HB.out | apply below_alloc | apply pw_below_drewN | apply below_drew1 | refine below_set ?_ (IsS70.ge HI0.out) | refine below_set ?_ GE152.out | refine below_set ?_ GE172.out) | exact HB.out)); rintro e w78 ⟨rfl, hi, hb, hk⟩; refine ⟨_, rfl, ?_⟩; replace HO_173000 := Aside0.mk (Kd.Q_mono (Kd.Q_keep (IsS70.apartQ (show IsS70 w0 _ g s0_0 t171 from by repeat (first | (with_reducible first | exact HI0.out | apply IsS70.alloc | apply IsS70.drewN | apply IsS70.drew | apply IsS70.set_1 | refine IsS70.far ?_ NB0_152.out _ | refine IsS70.far ?_ NB0_172.out _) | exact HI0.out)) (by (with_reducible repeat (first | apply Kd.Q_alloc | apply Kd.Q_drewN | apply Kd.Q_drew)); exact HO_173000.out) (by decide)) hk (fun _ h => h.2)) (fun _ h => h.1)); replace HO_173001 := Aside0.mk (Kd.R_mono (Kd.R_keep (IsS70.apart (show IsS70 w0 _ g s0_0 t171 from by repeat (first | (with_reducible first | exact HI0.out | apply IsS70.alloc | apply IsS70.drewN | apply IsS70.drew | apply IsS70.set_1 | refine IsS70.far ?_ NB0_152.out _ | refine IsS70.far ?_ NB0_172.out _) | exact HI0.out)) (rP HO_173001) (by decide)) hk (fun _ h => h.2)) (fun _ h => h.1)); replace BK152 := Aside0.mk (KeepBut.blk hk (g' := gb152) (o := .cells #[.slice none 0 0, .slice none 0 0] 25 (0, 0)) (kP BK152) NB152_0.out (by simp)); replace BK172 := Aside0.mk (KeepBut.blk hk (g' := gb172) (o := .cells #[u173000, u173001] 25 (0, 0)) (kP BK172) NB172_0.out (by simp)); replace HK := Aside0.mk (KeepBut.trans (by repeat (first | (with_reducible first | exact HK.out | apply KeepBut.set_ | apply keep_drewN | apply keep_drew | apply keep_alloc | refine keep_far ?_ GW152.out _ | refine keep_far ?_ GW172.out _) | exact HK.out)) hk (.inl rfl)); replace HB := Aside0.mk (hb); replace HI0 := Aside0.mk (hi); (try clear hb); (try clear hb2); (try clear hk); (try clear hi); have hnb79 := NB172_152.out; have hnc79 := NB152_172.out; have hnb80 := NB172_0.out; have hnc80 := NB0_172.out; have hcz81_0 := zc0 BK172; have hcz81_1 := zc1 BK172; have hfz81_0 := blk_frozen BK172.out 0; have hfz81_1 := blk_frozen BK172.out 1; have p77 : 0 ≤ (0 : Int) := (by omega); have q77 : (0 : Int) < ((x173001_2.length : Int) : Int) := dT; have qi77 : (0 < x173001_2.length) = True := eq_true (by omega); obtain ⟨go77, co77, eo77, gb77, gl77, cl77, HG77⟩ := Kd.R_form HO_173001.out (by omega); (first | cases eo77 | (injection eo77 with ea_ en_ ec_; (first | subst ea_ | (injection ea_ with ea_; subst ea_)); subst ec_; clear en_)); have GB77 := Aside0.mk gb77; have GG77 := Aside0.mk HG77; clear gb77 gl77 HG77; obtain ⟨hx77_0, hf77_0⟩ := Kd.R_celln 0 HO_173001.out (0 : Int) p77 q77; (try rw [show ((0 : Int)).toNat = 0 from rfl] at hx77_0); (try simp only [Nat.reduceMul, Nat.zero_mul, Nat.zero_add, Nat.reduceAdd, Nat.add_zero] at hx77_0); (try rw [show ((0 : Int)).toNat = 0 from rfl] at hf77_0); (try simp only [Nat.reduceMul, Nat.zero_mul, Nat.zero_add, Nat.reduceAdd, Nat.add_zero] at hf77_0); replace p77 := eq_true p77; replace q77 := eq_true q77; obtain ⟨hy82_, hz82_⟩ := Kd.R_celln 0 HO_173001.out (0 : Int) (by omega) (dT); (try simp only [Int.reduceToNat, Int.toNat_zero, Int.toNat_ofNat, Nat.reduceMul, Nat.zero_mul, Nat.zero_add] at hy82_ hz82_); (try rw [show ((0 : Int)).toNat = 0 from rfl] at hy82_); (try rw [show ((0 : Int)).toNat = 0 from rfl] at hz82_); have HP82 := Kd.R_putg HO_173001.out (0 : Int) 0) | ((with_reducible refine gate_store (t := 3) (p := 102) rfl ?_); refine store_event (t := 3) (p := 102) (v := ?vo_w83) (w1 := (w78.setCell ⟨go77, (0 : Int).toNat, none⟩ (.int .i64 0))) ?hg ?ho ?hn ?hr ?_; (case ho => rfl); (case hg => rfl); (case hn => rfl); (case hr => first | (go_simp; done) | (go_simp; rfl)); intro w83 hw; have hg : w78.grownBy w83 (some go77) := (by rw [hw]; exact HP82.2); have hp_ : Kd.R (Kd.int .i64) 3 w83 w.heap.size (fun k_ => some k_ ≠ (u173000 : Value).ownBlock) (.slice (some ⟨go77, 0, none⟩) x173001_2.length co77) y184 := (by rw [hw, Ny184.out]; exact HP82.1); clear HP82; replace HO_173000 := Aside0.mk (Kd.Q_after (v := (.slice (some ⟨go77, 0, none⟩) x173001_2.length co77)) (v1 := (.slice (some ⟨go77, 0, none⟩) x173001_2.length co77)) (ok := (fun _ => True)) (by (with_reducible repeat (first | apply Kd.Q_alloc | apply Kd.Q_drewN | apply Kd.Q_drew)); exact Kd.Q_mono HO_173000.out (fun _ hk => ⟨trivial, hk⟩)) hg (.inl rfl)); replace BK152 := Aside0.mk (blk_grown (g := gb152) (o := .cells #[.slice none 0 0, .slice none 0 0] 25 (0, 0)) (kP BK152) hg (Kd.R_ne HO_173001.out BK152.out (by decide))); replace BK172 := Aside0.mk (blk_grown (g := gb172) (o := .cells #[u173000, .slice (some ⟨go77, 0, none⟩) x173001_2.length co77] 25 (0, 0)) (kP BK172) hg (Kd.R_ne HO_173001.out BK172.out (by decide))); replace HI0 := Aside0.mk (IsS70.grown (by repeat (first | (with_reducible first | exact HI0.out | apply IsS70.alloc | apply IsS70.drewN | apply IsS70.drew | apply IsS70.set_1 | refine IsS70.far ?_ NB0_152.out _ | refine IsS70.far ?_ NB0_172.out _) | exact HI0.out)) hg (IsS70.own_ne HI0.out HO_173001.out (by decide))); replace HB := Aside0.mk ((by rw [hw]; exact below_set (HB.out) (Nat.le_trans HL.out GB77.out) : Below w0.heap.size w0 w83)); replace HK := Aside0.mk (KeepBut.trans (by repeat (first | (with_reducible first | exact HK.out | apply KeepBut.set_ | apply keep_drewN | apply keep_drew | apply keep_alloc | refine keep_far ?_ GW152.out _ | refine keep_far ?_ GW172.out _) | exact HK.out)) (KeepBut.of_grown hg g) (Kd.R_base2 HO_173001.out)); replace HO_173001 := Aside0.mk (hp_); clear hg hw hp_; have hcz84_0 := zc0 BK172; have hcz84_1 := zc1 BK172; have hfz84_0 := blk_frozen BK172.out 0; have hfz84_1 := blk_frozen BK172.out 1; obtain ⟨Ao85, co85, eo85, _⟩ := Kd.Q_slice HO_173000.out; subst eo85; have hnb86 := NB152_0.out; have hnc86 := NB0_152.out; have hcz87_0 := zc0 BK152; have hcz87_1 := zc1 BK152; have hfz87_0 := blk_frozen BK152.out 0; have hfz87_1 := blk_frozen BK152.out 1))
             refine bodyPost_ret (results_cell_row rfl _ _ gb152 25 #[.slice Ao85 x173000_2.length co85, .slice (some ⟨go77, 0, none⟩) x173001_2.length co77] (0, 0) _ rfl (by (with_reducible repeat (first | refine blk_drewN ?_ _ | refine blk_drew ?_ | refine blk_alloc ?_ _)); refine blk_put (cs := #[.slice Ao85 x173000_2.length co85, .slice none 0 0]) ?_ 1 _ rfl; (with_reducible repeat (first | refine blk_drewN ?_ _ | refine blk_drew ?_ | refine blk_alloc ?_ _)); refine blk_put (cs := #[.slice none 0 0, .slice none 0 0]) ?_ 0 _ rfl; (with_reducible repeat (first | refine blk_drewN ?_ _ | refine blk_drew ?_ | refine blk_alloc ?_ _)); exact BK152.out) Try.underlying25 rfl (by kernel_rfl)) rfl ?_
             exact ⟨_, _, by first | rfl | (simp [errW_none, errW_some] <;> rfl) | (simp only [← hji5]; first | rfl | (simp [errW_none, errW_some] <;> rfl)) | (simp [*, errW_none, errW_some] <;> rfl), by (with_reducible repeat (first | apply Kd.Q_alloc | apply Kd.Q_drewN | apply Kd.Q_drew)); exact Kd.Q_mono (Kd.Q_far (p := ⟨gb152, 1, none⟩) (Kd.Q_far (p := ⟨gb152, 0, none⟩) (Kd.Q_types HO_173000.out BK152.out (by decide)) (fun _ hk => hk.2) (.slice Ao85 x173000_2.length co85)) (fun _ hk => hk.2) (.slice (some ⟨go77, 0, none⟩) x173001_2.length co77)) (fun _ hk => hk.1.2), by (with_reducible repeat (first | apply Kd.R_alloc | apply Kd.R_drewN | apply Kd.R_drew)); exact Kd.R_mono (Kd.R_far (p := ⟨gb152, 1, none⟩) (Kd.R_far (p := ⟨gb152, 0, none⟩) (Kd.R_types HO_173001.out BK152.out (by decide)) (fun _ hk => hk.2) (.slice Ao85 x173000_2.length co85)) (fun _ hk => hk.2) (.slice (some ⟨go77, 0, none⟩) x173001_2.length co77)) (fun _ hk => hk.1), by repeat (first | (with_reducible first | exact HI0.out | apply IsS70.alloc | apply IsS70.drewN | apply IsS70.drew | apply IsS70.set_1 | refine IsS70.far ?_ NB0_152.out _ | refine IsS70.far ?_ NB0_172.out _) | exact HI0.out), by repeat (first | (with_reducible first | exact HB.out | apply below_alloc | apply pw_below_drewN | apply below_drew1 | refine below_set ?_ (IsS70.ge HI0.out) | refine below_set ?_ GE152.out | refine below_set ?_ GE172.out) | exact HB.out), by repeat (first | (with_reducible first | exact HK.out | apply KeepBut.set_ | apply keep_drewN | apply keep_drew | apply keep_alloc | refine keep_far ?_ GW152.out _ | refine keep_far ?_ GW172.out _) | exact HK.out)⟩
            ·rw [if_neg c76] at H
             exact absurd H (by simp)
           ·rw [if_neg c75] at H
            have c75b0 : (t182 == 0) = false := beq_eq_false_iff_ne.mpr c75
            have c75b1 : (t182 != 0) = true := bne_iff_ne.mpr c75
            by_cases c88 : t182 = 1
            ·rw [if_pos c88] at H
             have c88b0 : (t182 == 1) = true := beq_iff_eq.mpr c88
             have c88b1 : (t182 != 1) = false := bne_eq_false_iff_eq.mpr c88
             clear c88
             by_cases c89 : 1 ≤ (x173000_2.length : Int)
             ·rw [if_pos c89] at H
              have c89b0 := eq_true c89
              have c89b1 : decide (1 ≤ (x173000_2.length : Int)) = true := decide_eq_true c89
              clear c89
              obtain ⟨y185, hy185⟩ : ∃ y_ : List Int, y_ = (x173000_2.drop (1 : Int).toNat) := ⟨_, rfl⟩
              replace H : (some (y185, x173001_2, t183)) = some (r1, r2, r3) := by first | (rw [hy185]; with_reducible exact H) | (have H2_ := (Option.bind_some _ _).symm.trans H; rw [hy185]; with_reducible exact H2_) | (have H2_ := (Option.bind_some _ _).symm.trans H; with_reducible exact H2_) | with_reducible exact H | (rw [hy185]; exact H) | exact H
              have Ny185 := Aside0.mk hy185
              clear hy185
              simp only [Option.some.injEq, Prod.mk.injEq] at H
              obtain ⟨rfl, rfl, rfl⟩ := H
              go_wp2_with (first | ((with_reducible refine gate_callee (f := 55) rfl ?_); refine gL (some 97) Try.func55 #[.pointer (some ⟨g, 0, none⟩), .int .i64 50] ?_; (with_reducible refine (spec_l6Rd_pick.calls kj38 g s0_0 t171 50 t182 t183 w0 _ ?side1 ?side2 A74.out).mono ?_); (case side1 => repeat (first | (with_reducible first | exact HI0.out | apply IsS70.alloc | apply IsS70.drewN | apply IsS70.drew | apply IsS70.set_1 | refine IsS70.far ?_ NB0_152.out _ | refine IsS70.far ?_ NB0_172.out _) | exact HI0.out)); (case side2 => repeat (first | (with_reducible first | exact HB.out | apply below_alloc | apply pw_below_drewN | apply below_drew1 | refine below_set ?_ (IsS70.ge HI0.out) | refine below_set ?_ GE152.out | refine below_set ?_ GE172.out) | exact HB.out)); rintro e w90 ⟨rfl, hi, hb, hk⟩; refine ⟨_, rfl, ?_⟩; replace HO_173000 := Aside0.mk (Kd.Q_mono (Kd.Q_keep (IsS70.apartQ (show IsS70 w0 _ g s0_0 t171 from by repeat (first | (with_reducible first | exact HI0.out | apply IsS70.alloc | apply IsS70.drewN | apply IsS70.drew | apply IsS70.set_1 | refine IsS70.far ?_ NB0_152.out _ | refine IsS70.far ?_ NB0_172.out _) | exact HI0.out)) (by (with_reducible repeat (first | apply Kd.Q_alloc | apply Kd.Q_drewN | apply Kd.Q_drew)); exact HO_173000.out) (by decide)) hk (fun _ h => h.2)) (fun _ h => h.1)); replace HO_173001 := Aside0.mk (Kd.R_mono (Kd.R_keep (IsS70.apart (show IsS70 w0 _ g s0_0 t171 from by repeat (first | (with_reducible first | exact HI0.out | apply IsS70.alloc | apply IsS70.drewN | apply IsS70.drew | apply IsS70.set_1 | refine IsS70.far ?_ NB0_152.out _ | refine IsS70.far ?_ NB0_172.out _) | exact HI0.out)) (rP HO_173001) (by decide)) hk (fun _ h => h.2)) (fun _ h => h.1)); replace BK152 := Aside0.mk (KeepBut.blk hk (g' := gb152) (o := .cells #[.slice none 0 0, .slice none 0 0] 25 (0, 0)) (kP BK152) NB152_0.out (by simp)); replace BK172 := Aside0.mk (KeepBut.blk hk (g' := gb172) (o := .cells #[u173000, u173001] 25 (0, 0)) (kP BK172) NB172_0.out (by simp)); replace HK := Aside0.mk (KeepBut.trans (by repeat (first | (with_reducible first | exact HK.out | apply KeepBut.set_ | apply keep_drewN | apply keep_drew | apply keep_alloc | refine keep_far ?_ GW152.out _ | refine keep_far ?_ GW172.out _) | exact HK.out)) hk (.inl rfl)); replace HB := Aside0.mk (hb); replace HI0 := Aside0.mk (hi); (try clear hb); (try clear hb2); (try clear hk); (try clear hi); have hnb91 := NB172_152.out; have hnc91 := NB152_172.out; have hnb92 := NB172_0.out; have hnc92 := NB0_172.out; have hcz93_0 := zc0 BK172; have hcz93_1 := zc1 BK172; have hfz93_0 := blk_frozen BK172.out 0; have hfz93_1 := blk_frozen BK172.out 1; obtain ⟨Ao94, co94, eo94, _⟩ := Kd.Q_slice HO_173000.out; subst eo94; have q95 : (1 : Int) ≤ ((x173000_2.length : Int) : Int) := dT; obtain ⟨i095, hi095, _, hsz95, _⟩ := info_parts info3; have hcut95 := cut_from (P := Try.prog) 23 3 .i64 Try.underlying23 hi095 1 hsz95 Ao94 x173000_2.length co94 1 (by omega) q95; have hr95 := Kd.Q_drop (k := (1 : Int).toNat) HO_173000.out (by omega); obtain ⟨A95, hA95⟩ : ∃ A1, A1 = (if co94 = (1 : Int).toNat then Ao94 else (Ao94 : Option Addr).map (·.add ((1 : Int).toNat * 1))) := ⟨_, rfl⟩; obtain ⟨c95, hc95⟩ : ∃ c1, c1 = co94 - (1 : Int).toNat := ⟨_, rfl⟩; have hy95 : y185.length = x173000_2.length - (1 : Int).toNat := (by rw [Ny185.out, List.length_drop]); rw [← Ny185.out] at hr95; rw [← hy95, ← hA95, ← hc95] at hcut95; replace hr95 : Kd.Q (Kd.int .i64) 3 w90 w.heap.size (fun k_ => some k_ ≠ (u173001 : Value).ownBlock) (.slice A95 y185.length c95) y185 := (by rw [hA95, hc95, hy95]; exact hr95); have HE95 : Aside0 ((Value.slice A95 y185.length c95).ownBlock = (.slice Ao94 x173000_2.length co94 : Value).ownBlock) := ⟨by rw [hA95]; split <;> (cases (Ao94 : Option Addr) <;> rfl)⟩; clear hy95 hi095 hsz95 HO_173000 hA95 hc95; have HO187 := Aside0.mk hr95; clear hr95; replace q95 := eq_true q95; have n_ := Aside0.mk (Kd.R_mono (ok' := fun k_ => some k_ ≠ (.slice A95 y185.length c95 : Value).ownBlock) HO_173001.out (fun k_ hk => (by rw [HE95.out]; exact hk))); clear HO_173001; have HO_173001 := n_; clear n_; have hnb96 := NB152_0.out; have hnc96 := NB0_152.out; have hcz97_0 := zc0 BK152; have hcz97_1 := zc1 BK152; have hfz97_0 := blk_frozen BK152.out 0; have hfz97_1 := blk_frozen BK152.out 1; obtain ⟨Ao98, co98, eo98⟩ := Kd.R_slice HO_173001.out; subst eo98))
              refine bodyPost_ret (results_cell_row rfl _ _ gb152 25 #[.slice A95 y185.length c95, .slice Ao98 x173001_2.length co98] (0, 0) _ rfl (by (with_reducible repeat (first | refine blk_drewN ?_ _ | refine blk_drew ?_ | refine blk_alloc ?_ _)); refine blk_put (cs := #[.slice A95 y185.length c95, .slice none 0 0]) ?_ 1 _ rfl; (with_reducible repeat (first | refine blk_drewN ?_ _ | refine blk_drew ?_ | refine blk_alloc ?_ _)); refine blk_put (cs := #[.slice none 0 0, .slice none 0 0]) ?_ 0 _ rfl; (with_reducible repeat (first | refine blk_drewN ?_ _ | refine blk_drew ?_ | refine blk_alloc ?_ _)); refine blk_far ?_ NB152_172.out _; (with_reducible repeat (first | refine blk_drewN ?_ _ | refine blk_drew ?_ | refine blk_alloc ?_ _)); exact BK152.out) Try.underlying25 rfl (by kernel_rfl)) rfl ?_
              exact ⟨_, _, by first | rfl | (simp [errW_none, errW_some] <;> rfl) | (simp only [← hji5]; first | rfl | (simp [errW_none, errW_some] <;> rfl)) | (simp [*, errW_none, errW_some] <;> rfl), by (with_reducible repeat (first | apply Kd.Q_alloc | apply Kd.Q_drewN | apply Kd.Q_drew)); exact Kd.Q_mono (Kd.Q_far (p := ⟨gb152, 1, none⟩) (Kd.Q_far (p := ⟨gb152, 0, none⟩) (Kd.Q_far (p := ⟨gb172, 0, none⟩) (Kd.Q_types (Kd.Q_types HO187.out BK172.out (by decide)) BK152.out (by decide)) (fun _ hk => hk.1.2) (.slice A95 y185.length c95)) (fun _ hk => hk.2) (.slice A95 y185.length c95)) (fun _ hk => hk.2) (.slice Ao98 x173001_2.length co98)) (fun _ hk => hk.1.1), by (with_reducible repeat (first | apply Kd.R_alloc | apply Kd.R_drewN | apply Kd.R_drew)); exact Kd.R_mono (Kd.R_far (p := ⟨gb152, 1, none⟩) (Kd.R_far (p := ⟨gb152, 0, none⟩) (Kd.R_far (p := ⟨gb172, 0, none⟩) (Kd.R_types (Kd.R_types HO_173001.out BK172.out (by decide)) BK152.out (by decide)) (fun _ hk => hk.1.2) (.slice A95 y185.length c95)) (fun _ hk => hk.2) (.slice A95 y185.length c95)) (fun _ hk => hk.2) (.slice Ao98 x173001_2.length co98)) (fun _ hk => hk.1.1), by repeat (first | (with_reducible first | exact HI0.out | apply IsS70.alloc | apply IsS70.drewN | apply IsS70.drew | apply IsS70.set_1 | refine IsS70.far ?_ NB0_152.out _ | refine IsS70.far ?_ NB0_172.out _) | exact HI0.out), by repeat (first | (with_reducible first | exact HB.out | apply below_alloc | apply pw_below_drewN | apply below_drew1 | refine below_set ?_ (IsS70.ge HI0.out) | refine below_set ?_ GE152.out | refine below_set ?_ GE172.out) | exact HB.out), by repeat (first | (with_reducible first | exact HK.out | apply KeepBut.set_ | apply keep_drewN | apply keep_drew | apply keep_alloc | refine keep_far ?_ GW152.out _ | refine keep_far ?_ GW172.out _) | exact HK.out)⟩
             ·rw [if_neg c89] at H
              exact absurd H (by simp)
            ·rw [if_neg c88] at H
             have c88b0 : (t182 == 1) = false := beq_eq_false_iff_ne.mpr c88
             have c88b1 : (t182 != 1) = true := bne_iff_ne.mpr c88
             by_cases c99 : t182 = 2
             ·rw [if_pos c99] at H
              have c99b0 : (t182 == 2) = true := beq_iff_eq.mpr c99
              have c99b1 : (t182 != 2) = false := bne_eq_false_iff_eq.mpr c99
              clear c99
              by_cases c100 : 0 < (x173000_2.length : Int)
              ·rw [if_pos c100] at H
               have c100b0 : decide (0 < (x173000_2.length : Int)) = true := decide_eq_true c100
               have c100b1 : decide (0 < x173000_2.length) = true := decide_eq_true (by omega)
               clear c100
               obtain ⟨y188, hy188⟩ : ∃ y_ : List Int, y_ = (x173000_2.set (0 : Int).toNat ji5) := ⟨_, rfl⟩
               replace H : (some (y188, x173001_2, t183)) = some (r1, r2, r3) := by first | (rw [hy188]; with_reducible exact H) | (have H2_ := (Option.bind_some _ _).symm.trans H; rw [hy188]; with_reducible exact H2_) | (have H2_ := (Option.bind_some _ _).symm.trans H; with_reducible exact H2_) | with_reducible exact H | (rw [hy188]; exact H) | exact H
               have Ny188 := Aside0.mk hy188
               clear hy188
               simp only [Option.some.injEq, Prod.mk.injEq] at H
               obtain ⟨rfl, rfl, rfl⟩ := H
               go_wp2_with (first | ((with_reducible refine gate_callee (f := 55) rfl ?_); refine gL (some 97) Try.func55 #[.pointer (some ⟨g, 0, none⟩), .int .i64 50] ?_; (with_reducible refine (spec_l6Rd_pick.calls kj38 g s0_0 t171 50 t182 t183 w0 _ ?side1 ?side2 A74.out).mono ?_); (case side1 => repeat (first | (with_reducible first | exact HI0.out | apply IsS70.alloc | apply IsS70.drewN | apply IsS70.drew | apply IsS70.set_1 | refine IsS70.far ?_ NB0_152.out _ | refine IsS70.far ?_ NB0_172.out _) | exact HI0.out)); (case side2 => repeat (first | (with_reducible first | exact HB.out | apply below_alloc | apply pw_below_drewN | apply below_drew1 | refine below_set ?_ (IsS70.ge HI0.out) | refine below_set ?_ GE152.out | refine below_set ?_ GE172.out) | exact HB.out)); rintro e w102 ⟨rfl, hi, hb, hk⟩; refine ⟨_, rfl, ?_⟩; replace HO_173000 := Aside0.mk (Kd.Q_mono (Kd.Q_keep (IsS70.apartQ (show IsS70 w0 _ g s0_0 t171 from by repeat (first | (with_reducible first | exact HI0.out | apply IsS70.alloc | apply IsS70.drewN | apply IsS70.drew | apply IsS70.set_1 | refine IsS70.far ?_ NB0_152.out _ | refine IsS70.far ?_ NB0_172.out _) | exact HI0.out)) (by (with_reducible repeat (first | apply Kd.Q_alloc | apply Kd.Q_drewN | apply Kd.Q_drew)); exact HO_173000.out) (by decide)) hk (fun _ h => h.2)) (fun _ h => h.1)); replace HO_173001 := Aside0.mk (Kd.R_mono (Kd.R_keep (IsS70.apart (show IsS70 w0 _ g s0_0 t171 from by repeat (first | (with_reducible first | exact HI0.out | apply IsS70.alloc | apply IsS70.drewN | apply IsS70.drew | apply IsS70.set_1 | refine IsS70.far ?_ NB0_152.out _ | refine IsS70.far ?_ NB0_172.out _) | exact HI0.out)) (rP HO_173001) (by decide)) hk (fun _ h => h.2)) (fun _ h => h.1)); replace BK152 := Aside0.mk (KeepBut.blk hk (g' := gb152) (o := .cells #[.slice none 0 0, .slice none 0 0] 25 (0, 0)) (kP BK152) NB152_0.out (by simp)); replace BK172 := Aside0.mk (KeepBut.blk hk (g' := gb172) (o := .cells #[u173000, u173001] 25 (0, 0)) (kP BK172) NB172_0.out (by simp)); replace HK := Aside0.mk (KeepBut.trans (by repeat (first | (with_reducible first | exact HK.out | apply KeepBut.set_ | apply keep_drewN | apply keep_drew | apply keep_alloc | refine keep_far ?_ GW152.out _ | refine keep_far ?_ GW172.out _) | exact HK.out)) hk (.inl rfl)); replace HB := Aside0.mk (hb); replace HI0 := Aside0.mk (hi); (try clear hb); (try clear hb2); (try clear hk); (try clear hi); have hnb103 := NB172_152.out; have hnc103 := NB152_172.out; have hnb104 := NB172_0.out; have hnc104 := NB0_172.out; have hcz105_0 := zc0 BK172; have hcz105_1 := zc1 BK172; have hfz105_0 := blk_frozen BK172.out 0; have hfz105_1 := blk_frozen BK172.out 1; have p101 : 0 ≤ (0 : Int) := (by omega); have q101 : (0 : Int) < ((x173000_2.length : Int) : Int) := dT; have qi101 : (0 < x173000_2.length) = True := eq_true (by omega); obtain ⟨go101, oo101, co101, eo101, gb101, gl101, cl101, HG101⟩ := Kd.Q_form HO_173000.out (by omega); (first | cases eo101 | (injection eo101 with ea_ en_ ec_; (first | subst ea_ | (injection ea_ with ea_; subst ea_)); subst ec_; clear en_)); have GB101 := Aside0.mk gb101; have GG101 := Aside0.mk HG101; clear gb101 gl101 HG101; obtain ⟨hx101_0, hf101_0⟩ := Kd.Q_cell 0 HO_173000.out (0 : Int) p101 q101; (try rw [show ((0 : Int)).toNat = 0 from rfl] at hx101_0); (try simp only [Nat.reduceMul, Nat.zero_mul, Nat.zero_add, Nat.reduceAdd, Nat.add_zero] at hx101_0); (try rw [show ((0 : Int)).toNat = 0 from rfl] at hf101_0); (try simp only [Nat.reduceMul, Nat.zero_mul, Nat.zero_add, Nat.reduceAdd, Nat.add_zero] at hf101_0); replace p101 := eq_true p101; replace q101 := eq_true q101; obtain ⟨hy106_, hz106_⟩ := Kd.Q_cell 0 HO_173000.out (0 : Int) (by omega) (dT); (try simp only [Int.reduceToNat, Int.toNat_zero, Int.toNat_ofNat, Nat.reduceMul, Nat.zero_mul, Nat.zero_add] at hy106_ hz106_); (try rw [show ((0 : Int)).toNat = 0 from rfl] at hy106_); (try rw [show ((0 : Int)).toNat = 0 from rfl] at hz106_); have HP106 := Kd.Q_putg HO_173000.out (0 : Int) (by omega) (by have h_ : (0 : Int) < ((x173000_2.length : Int) : Int) := dT; first | exact h_ | (have e_ := (Kd.Q_reads' HO_173000.out).1; omega) | simpa using h_) ji5) | ((with_reducible refine gate_store (t := 3) (p := 114) rfl ?_); refine store_event (t := 3) (p := 114) (v := ?vo_w107) (w1 := (w102.setCell ⟨go101, oo101, none⟩ (.int .i64 ji5))) ?hg ?ho ?hn ?hr ?_; (case ho => rfl); (case hg => rfl); (case hn => rfl); (case hr => first | (go_simp; done) | (go_simp; rfl)); intro w107 hw; have hg : w102.grownBy w107 (some go101) := (by rw [hw]; exact HP106.2); have hp_ : Kd.Q (Kd.int .i64) 3 w107 w.heap.size (fun k_ => some k_ ≠ (u173001 : Value).ownBlock) (.slice (some ⟨go101, oo101, none⟩) x173000_2.length co101) y188 := (by rw [hw, Ny188.out]; exact HP106.1); clear HP106; replace HO_173001 := Aside0.mk (Kd.R_after (v := (.slice (some ⟨go101, oo101, none⟩) x173000_2.length co101)) (v1 := (.slice (some ⟨go101, oo101, none⟩) x173000_2.length co101)) (ok := (fun _ => True)) (by (with_reducible repeat (first | apply Kd.R_alloc | apply Kd.R_drewN | apply Kd.R_drew)); exact Kd.R_mono HO_173001.out (fun _ hk => ⟨trivial, hk⟩)) hg (.inl rfl)); replace BK152 := Aside0.mk (blk_grown (g := gb152) (o := .cells #[.slice none 0 0, .slice none 0 0] 25 (0, 0)) (kP BK152) hg (Kd.Q_ne HO_173000.out BK152.out (by decide))); replace BK172 := Aside0.mk (blk_grown (g := gb172) (o := .cells #[.slice (some ⟨go101, oo101, none⟩) x173000_2.length co101, u173001] 25 (0, 0)) (kP BK172) hg (Kd.Q_ne HO_173000.out BK172.out (by decide))); replace HI0 := Aside0.mk (IsS70.grown (by repeat (first | (with_reducible first | exact HI0.out | apply IsS70.alloc | apply IsS70.drewN | apply IsS70.drew | apply IsS70.set_1 | refine IsS70.far ?_ NB0_152.out _ | refine IsS70.far ?_ NB0_172.out _) | exact HI0.out)) hg (IsS70.own_neQ HI0.out HO_173000.out (by decide))); replace HB := Aside0.mk ((by rw [hw]; exact below_set (HB.out) (Nat.le_trans HL.out GB101.out) : Below w0.heap.size w0 w107)); replace HK := Aside0.mk (KeepBut.trans (by repeat (first | (with_reducible first | exact HK.out | apply KeepBut.set_ | apply keep_drewN | apply keep_drew | apply keep_alloc | refine keep_far ?_ GW152.out _ | refine keep_far ?_ GW172.out _) | exact HK.out)) (KeepBut.of_grown hg g) (Kd.Q_base2 HO_173000.out)); replace HO_173000 := Aside0.mk (hp_); clear hg hw hp_; have hcz108_0 := zc0 BK172; have hcz108_1 := zc1 BK172; have hfz108_0 := blk_frozen BK172.out 0; have hfz108_1 := blk_frozen BK172.out 1; have hnb109 := NB152_0.out; have hnc109 := NB0_152.out; have hcz110_0 := zc0 BK152; have hcz110_1 := zc1 BK152; have hfz110_0 := blk_frozen BK152.out 0; have hfz110_1 := blk_frozen BK152.out 1; obtain ⟨Ao111, co111, eo111⟩ := Kd.R_slice HO_173001.out; subst eo111))
               refine bodyPost_ret (results_cell_row rfl _ _ gb152 25 #[.slice (some ⟨go101, oo101, none⟩) x173000_2.length co101, .slice Ao111 x173001_2.length co111] (0, 0) _ rfl (by (with_reducible repeat (first | refine blk_drewN ?_ _ | refine blk_drew ?_ | refine blk_alloc ?_ _)); refine blk_put (cs := #[.slice (some ⟨go101, oo101, none⟩) x173000_2.length co101, .slice none 0 0]) ?_ 1 _ rfl; (with_reducible repeat (first | refine blk_drewN ?_ _ | refine blk_drew ?_ | refine blk_alloc ?_ _)); refine blk_put (cs := #[.slice none 0 0, .slice none 0 0]) ?_ 0 _ rfl; (with_reducible repeat (first | refine blk_drewN ?_ _ | refine blk_drew ?_ | refine blk_alloc ?_ _)); exact BK152.out) Try.underlying25 rfl (by kernel_rfl)) rfl ?_
               exact ⟨_, _, by first | rfl | (simp [errW_none, errW_some] <;> rfl) | (simp only [← hji5]; first | rfl | (simp [errW_none, errW_some] <;> rfl)) | (simp [*, errW_none, errW_some] <;> rfl), by (with_reducible repeat (first | apply Kd.Q_alloc | apply Kd.Q_drewN | apply Kd.Q_drew)); exact Kd.Q_mono (Kd.Q_far (p := ⟨gb152, 1, none⟩) (Kd.Q_far (p := ⟨gb152, 0, none⟩) (Kd.Q_types HO_173000.out BK152.out (by decide)) (fun _ hk => hk.2) (.slice (some ⟨go101, oo101, none⟩) x173000_2.length co101)) (fun _ hk => hk.2) (.slice Ao111 x173001_2.length co111)) (fun _ hk => hk.1), by (with_reducible repeat (first | apply Kd.R_alloc | apply Kd.R_drewN | apply Kd.R_drew)); exact Kd.R_mono (Kd.R_far (p := ⟨gb152, 1, none⟩) (Kd.R_far (p := ⟨gb152, 0, none⟩) (Kd.R_types HO_173001.out BK152.out (by decide)) (fun _ hk => hk.2) (.slice (some ⟨go101, oo101, none⟩) x173000_2.length co101)) (fun _ hk => hk.2) (.slice Ao111 x173001_2.length co111)) (fun _ hk => hk.1.2), by repeat (first | (with_reducible first | exact HI0.out | apply IsS70.alloc | apply IsS70.drewN | apply IsS70.drew | apply IsS70.set_1 | refine IsS70.far ?_ NB0_152.out _ | refine IsS70.far ?_ NB0_172.out _) | exact HI0.out), by repeat (first | (with_reducible first | exact HB.out | apply below_alloc | apply pw_below_drewN | apply below_drew1 | refine below_set ?_ (IsS70.ge HI0.out) | refine below_set ?_ GE152.out | refine below_set ?_ GE172.out) | exact HB.out), by repeat (first | (with_reducible first | exact HK.out | apply KeepBut.set_ | apply keep_drewN | apply keep_drew | apply keep_alloc | refine keep_far ?_ GW152.out _ | refine keep_far ?_ GW172.out _) | exact HK.out)⟩
              ·rw [if_neg c100] at H
               exact absurd H (by simp)
             ·rw [if_neg c99] at H
              have c99b0 : (t182 == 2) = false := beq_eq_false_iff_ne.mpr c99
              have c99b1 : (t182 != 2) = true := bne_iff_ne.mpr c99
              simp only [Option.some.injEq, Prod.mk.injEq] at H
              obtain ⟨rfl, rfl, rfl⟩ := H
              go_wp2_with (first | ((with_reducible refine gate_callee (f := 55) rfl ?_); refine gL (some 97) Try.func55 #[.pointer (some ⟨g, 0, none⟩), .int .i64 50] ?_; (with_reducible refine (spec_l6Rd_pick.calls kj38 g s0_0 t171 50 t182 t183 w0 _ ?side1 ?side2 A74.out).mono ?_); (case side1 => repeat (first | (with_reducible first | exact HI0.out | apply IsS70.alloc | apply IsS70.drewN | apply IsS70.drew | apply IsS70.set_1 | refine IsS70.far ?_ NB0_152.out _ | refine IsS70.far ?_ NB0_172.out _) | exact HI0.out)); (case side2 => repeat (first | (with_reducible first | exact HB.out | apply below_alloc | apply pw_below_drewN | apply below_drew1 | refine below_set ?_ (IsS70.ge HI0.out) | refine below_set ?_ GE152.out | refine below_set ?_ GE172.out) | exact HB.out)); rintro e w112 ⟨rfl, hi, hb, hk⟩; refine ⟨_, rfl, ?_⟩; replace HO_173000 := Aside0.mk (Kd.Q_mono (Kd.Q_keep (IsS70.apartQ (show IsS70 w0 _ g s0_0 t171 from by repeat (first | (with_reducible first | exact HI0.out | apply IsS70.alloc | apply IsS70.drewN | apply IsS70.drew | apply IsS70.set_1 | refine IsS70.far ?_ NB0_152.out _ | refine IsS70.far ?_ NB0_172.out _) | exact HI0.out)) (by (with_reducible repeat (first | apply Kd.Q_alloc | apply Kd.Q_drewN | apply Kd.Q_drew)); exact HO_173000.out) (by decide)) hk (fun _ h => h.2)) (fun _ h => h.1)); replace HO_173001 := Aside0.mk (Kd.R_mono (Kd.R_keep (IsS70.apart (show IsS70 w0 _ g s0_0 t171 from by repeat (first | (with_reducible first | exact HI0.out | apply IsS70.alloc | apply IsS70.drewN | apply IsS70.drew | apply IsS70.set_1 | refine IsS70.far ?_ NB0_152.out _ | refine IsS70.far ?_ NB0_172.out _) | exact HI0.out)) (rP HO_173001) (by decide)) hk (fun _ h => h.2)) (fun _ h => h.1)); replace BK152 := Aside0.mk (KeepBut.blk hk (g' := gb152) (o := .cells #[.slice none 0 0, .slice none 0 0] 25 (0, 0)) (kP BK152) NB152_0.out (by simp)); replace BK172 := Aside0.mk (KeepBut.blk hk (g' := gb172) (o := .cells #[u173000, u173001] 25 (0, 0)) (kP BK172) NB172_0.out (by simp)); replace HK := Aside0.mk (KeepBut.trans (by repeat (first | (with_reducible first | exact HK.out | apply KeepBut.set_ | apply keep_drewN | apply keep_drew | apply keep_alloc | refine keep_far ?_ GW152.out _ | refine keep_far ?_ GW172.out _) | exact HK.out)) hk (.inl rfl)); replace HB := Aside0.mk (hb); replace HI0 := Aside0.mk (hi); (try clear hb); (try clear hb2); (try clear hk); (try clear hi); have hnb113 := NB172_152.out; have hnc113 := NB152_172.out; have hnb114 := NB172_0.out; have hnc114 := NB0_172.out; have hcz115_0 := zc0 BK172; have hcz115_1 := zc1 BK172; have hfz115_0 := blk_frozen BK172.out 0; have hfz115_1 := blk_frozen BK172.out 1; obtain ⟨Ao116, co116, eo116, _⟩ := Kd.Q_slice HO_173000.out; subst eo116; have hnb117 := NB152_0.out; have hnc117 := NB0_152.out; have hcz118_0 := zc0 BK152; have hcz118_1 := zc1 BK152; have hfz118_0 := blk_frozen BK152.out 0; have hfz118_1 := blk_frozen BK152.out 1; obtain ⟨Ao119, co119, eo119⟩ := Kd.R_slice HO_173001.out; subst eo119))
              refine bodyPost_ret (results_cell_row rfl _ _ gb152 25 #[.slice Ao116 x173000_2.length co116, .slice Ao119 x173001_2.length co119] (0, 0) _ rfl (by (with_reducible repeat (first | refine blk_drewN ?_ _ | refine blk_drew ?_ | refine blk_alloc ?_ _)); refine blk_put (cs := #[.slice Ao116 x173000_2.length co116, .slice none 0 0]) ?_ 1 _ rfl; (with_reducible repeat (first | refine blk_drewN ?_ _ | refine blk_drew ?_ | refine blk_alloc ?_ _)); refine blk_put (cs := #[.slice none 0 0, .slice none 0 0]) ?_ 0 _ rfl; (with_reducible repeat (first | refine blk_drewN ?_ _ | refine blk_drew ?_ | refine blk_alloc ?_ _)); exact BK152.out) Try.underlying25 rfl (by kernel_rfl)) rfl ?_
              exact ⟨_, _, by first | rfl | (simp [errW_none, errW_some] <;> rfl) | (simp only [← hji5]; first | rfl | (simp [errW_none, errW_some] <;> rfl)) | (simp [*, errW_none, errW_some] <;> rfl), by (with_reducible repeat (first | apply Kd.Q_alloc | apply Kd.Q_drewN | apply Kd.Q_drew)); exact Kd.Q_mono (Kd.Q_far (p := ⟨gb152, 1, none⟩) (Kd.Q_far (p := ⟨gb152, 0, none⟩) (Kd.Q_types HO_173000.out BK152.out (by decide)) (fun _ hk => hk.2) (.slice Ao116 x173000_2.length co116)) (fun _ hk => hk.2) (.slice Ao119 x173001_2.length co119)) (fun _ hk => hk.1), by (with_reducible repeat (first | apply Kd.R_alloc | apply Kd.R_drewN | apply Kd.R_drew)); exact Kd.R_mono (Kd.R_far (p := ⟨gb152, 1, none⟩) (Kd.R_far (p := ⟨gb152, 0, none⟩) (Kd.R_types HO_173001.out BK152.out (by decide)) (fun _ hk => hk.2) (.slice Ao116 x173000_2.length co116)) (fun _ hk => hk.2) (.slice Ao119 x173001_2.length co119)) (fun _ hk => hk.1), by repeat (first | (with_reducible first | exact HI0.out | apply IsS70.alloc | apply IsS70.drewN | apply IsS70.drew | apply IsS70.set_1 | refine IsS70.far ?_ NB0_152.out _ | refine IsS70.far ?_ NB0_172.out _) | exact HI0.out), by repeat (first | (with_reducible first | exact HB.out | apply below_alloc | apply pw_below_drewN | apply below_drew1 | refine below_set ?_ (IsS70.ge HI0.out) | refine below_set ?_ GE152.out | refine below_set ?_ GE172.out) | exact HB.out), by repeat (first | (with_reducible first | exact HK.out | apply KeepBut.set_ | apply keep_drewN | apply keep_drew | apply keep_alloc | refine keep_far ?_ GW152.out _ | refine keep_far ?_ GW172.out _) | exact HK.out)⟩
  ·rw [if_neg c7] at H
   exact absurd H (by simp)
 ·rw [if_neg c6] at H
  exact absurd H (by simp)

end Go.Proofs.Ytihabnfccgjfbaa.F
