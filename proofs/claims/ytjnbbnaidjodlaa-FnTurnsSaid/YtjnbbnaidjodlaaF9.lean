/- Contracts: what these Go functions return. -/
import Derived.Test.YtjnbbnaidjodlaaF0
import Derived.Test.YtjnbbnaidjodlaaF1
import Derived.Test.YtjnbbnaidjodlaaF2
import Derived.Test.YtjnbbnaidjodlaaF4
import Derived.Test.YtjnbbnaidjodlaaF7
import Derived.Test.YtjnbbnaidjodlaaF8
namespace Go.Proofs.Ytjnbbnaidjodlaa.F
open Go.RowKit Go.Proofs.YtjnbbnaidjodlaaW.PrintWords Go.Proofs.YtjnbbnaidjodlaaW.PrintLast Go.Proofs.YtjnbbnaidjodlaaW.PrintMore
attribute [local go_sem] max2_int min2_int max_two min_two max_three min_three max_four min_four
set_option linter.unusedVariables false
set_option linter.unusedSimpArgs false

/-! ### spec_l91Map: function 12 -/
mutual
def spec_l91Map.l0 : Nat → Int → List Int → List Int → Int → List Int → Int → Option (List Int × List Int × Int)
 | 0, _, _, _, _, _, _ => none
 | k + 1, x5, x6, x7, x8, x1000, x1001 => if (wrap64 (x8 + 1)) < x5 then (if 0 ≤ x8 then (if x8 < (x6.length : Int) then (if 0 ≤ (wrap64 (x8 + 1)) then (if (wrap64 (x8 + 1)) < (x6.length : Int) then (if 0 ≤ (rd x6 x8) then (if (rd x6 x8) < (x7.length : Int) then (if 0 ≤ (rd x6 (wrap64 (x8 + 1))) then (if (rd x6 (wrap64 (x8 + 1))) < (x7.length : Int) then (spec_l91Map.l0 k x5 x6 ((x7.set ((rd x6 x8) : Int).toNat (rd x6 (wrap64 (x8 + 1)))).set ((rd x6 (wrap64 (x8 + 1))) : Int).toNat (rd x6 x8)) (wrap64 (x8 + 2)) x1000 x1001) else (none)) else (none)) else (none)) else (none)) else (none)) else (none)) else (none)) else (none)) else ((spec_l91Perm.f k x1000 x1001 x5).bind fun bt171 => (spec_l91Map.l1 k x5 0 x1000 bt171.2 bt171.1 x7))
def spec_l91Map.l1 : Nat → Int → Int → List Int → Int → List Int → List Int → Option (List Int × List Int × Int)
 | 0, _, _, _, _, _, _ => none
 | k + 1, x5, x10, x1000, x1001, x176000, x176001 => if x10 < x5 then ((spec_MapValid.f k x176000 x176001).bind fun t176 => (spec_l91Map.j2 k x5 x10 (!t176) x1000 x1001 x176000 x176001)) else (spec_l91Map.j2 k x5 x10 false x1000 x1001 x176000 x176001)
def spec_l91Map.j2 : Nat → Int → Int → Bool → List Int → Int → List Int → List Int → Option (List Int × List Int × Int)
 | 0, _, _, _, _, _, _, _ => none
 | k + 1, x5, x10, x64, x1000, x1001, x176000, x176001 => if x64 = true then ((spec_l1Orbits.f k x176000 x176001).bind fun t177 => (spec_l91Map.l2 k x5 x10 t177 0 x1000 x1001 x176000 x176001)) else ((spec_l6Rd_pick.f k x1000 x1001 50).bind fun bt185 => (if bt185.1 = 0 then (if 0 < (x176001.length : Int) then (some (x176000, (x176001.set (0 : Int).toNat 0), bt185.2)) else (none)) else (if bt185.1 = 1 then (if 1 ≤ (x176000.length : Int) then (some ((x176000.drop (1 : Int).toNat), x176001, bt185.2)) else (none)) else (if bt185.1 = 2 then (if 0 < (x176000.length : Int) then (some ((x176000.set (0 : Int).toNat x5), x176001, bt185.2)) else (none)) else (some (x176000, x176001, bt185.2))))))
def spec_l91Map.l2 : Nat → Int → Int → List Int → Int → List Int → Int → List Int → List Int → Option (List Int × List Int × Int)
 | 0, _, _, _, _, _, _, _, _ => none
 | k + 1, x5, x10, x11, x12, x1000, x1001, x176000, x176001 => if 0 ≤ x12 then (if x12 < (x11.length : Int) then (if (rd x11 x12) = 0 then (spec_l91Map.l2 k x5 x10 x11 (wrap64 (x12 + 1)) x1000 x1001 x176000 x176001) else (if 0 < (x176000.length : Int) then (if x12 < (x176000.length : Int) then (spec_l91Map.l1 k x5 (wrap64 (x10 + 1)) x1000 x1001 ((x176000.set (0 : Int).toNat (rd x176000 x12)).set (x12 : Int).toNat (rd x176000 0)) x176001) else (none)) else (none))) else (none)) else (none)
end
def spec_l91Map.f (k : Nat) (s0_0 : List Int) (s0_1 : Int) (a1 : Int) : Option (List Int × List Int × Int) := (spec_l6Rd_pick.f k s0_0 s0_1 a1).bind fun bt156 => ((spec_l91Perm.f k s0_0 bt156.2 (wrap64 (2 * (wrap64 (1 + bt156.1))))).bind fun bt158 => (if 0 ≤ (wrap64 (2 * (wrap64 (1 + bt156.1)))) then (if (wrap64 (2 * (wrap64 (1 + bt156.1))) : Int).toNat ≤ 35184372088832 then (spec_l91Map.l0 k (wrap64 (2 * (wrap64 (1 + bt156.1)))) bt158.1 (List.replicate (wrap64 (2 * (wrap64 (1 + bt156.1))) : Int).toNat 0) 0 s0_0 bt158.2) else (none)) else (none)))
def spec_l91Map.T7 : Bool × List (List Nat × List Nat) := (true, [([], []), ([], []), ([], []), ([1, 2], [1, 2]), ([3], [3]), ([], []), ([], []), ([6], [6]), ([5, 7], [5, 7]), ([8], [8]), ([0, 4, 0, 1, 2, 3, 4, 5, 6, 7, 8, 9], [0, 4]), ([10, 9, 0, 1, 2, 3, 4, 5, 6, 7, 8, 9], [9, 10])])
def spec_l91Map.B7 : List Nat := [0, 0, 0, 6, 14, 0, 0, 64, 224, 480, 1023, 2047]
theorem spec_l91Map.tab7 : rtab .any (opsOf Try.f12 7) = spec_l91Map.T7 := by kernel_rfl
theorem spec_l91Map.bits7 : waitsOk spec_l91Map.T7.2 spec_l91Map.B7 = true := by kernel_rfl
def spec_l91Map.T8 : Bool × List (List Nat × List Nat) := (true, [([], []), ([], []), ([], []), ([2], [2]), ([1, 3], [1, 3]), ([4], [4]), ([], []), ([], []), ([6, 7], [6, 7]), ([8], [8]), ([0, 5, 0, 1, 2, 3, 4, 5, 6, 7, 8, 9], [0, 5]), ([10, 9, 0, 1, 2, 3, 4, 5, 6, 7, 8, 9], [9, 10])])
def spec_l91Map.B8 : List Nat := [0, 0, 0, 4, 14, 30, 0, 0, 192, 448, 1023, 2047]
theorem spec_l91Map.tab8 : rtab .any (opsOf Try.f12 8) = spec_l91Map.T8 := by kernel_rfl
theorem spec_l91Map.bits8 : waitsOk spec_l91Map.T8.2 spec_l91Map.B8 = true := by kernel_rfl
def spec_l91Map.T18 : Bool × List (List Nat × List Nat) := (true, [([], []), ([0], [0]), ([], []), ([2], [2]), ([], []), ([3, 4], [3, 4]), ([5], [5]), ([1, 0, 1, 2, 3, 4, 5, 6], [1]), ([7, 6, 0, 1, 2, 3, 4, 5, 6], [6, 7])])
def spec_l91Map.B18 : List Nat := [0, 1, 0, 4, 0, 28, 60, 127, 255]
theorem spec_l91Map.tab18 : rtab .any (opsOf Try.f12 18) = spec_l91Map.T18 := by kernel_rfl
theorem spec_l91Map.bits18 : waitsOk spec_l91Map.T18.2 spec_l91Map.B18 = true := by kernel_rfl
set_option maxHeartbeats 8000000 in
set_option maxRecDepth 100000 in
theorem spec_l91Map.calls (k : Nat) (g : Nat) (s0_0 : List Int) (s0_1 : Int) (a1 : Int) (r1 : List Int) (r2 : List Int) (r3 : Int) (w0 w : World) (hI : IsS47 w0 w g s0_0 s0_1) (hB : Below w0.heap.size w0 w) (h : spec_l91Map.f k s0_0 s0_1 a1 = some (r1, r2, r3)) :
 Calls Try.prog 12 #[.pointer (some ⟨g, 0, none⟩), .int .i64 a1] w fun e w' => ∃ v0_ v1_ : Value, e = .returned (.agg #[v0_, v1_]) ∧ Kd.Q (Kd.int .i64) 3 w' w.heap.size (fun k_ => some k_ ≠ (v1_ : Value).ownBlock) v0_ r1 ∧ Kd.R (Kd.int .i64) 3 w' w.heap.size (fun k_ => some k_ ≠ (v0_ : Value).ownBlock) v1_ r2 ∧ IsS47 w0 w' g s0_0 r3 ∧ Below w0.heap.size w0 w' ∧ KeepBut w w' g none := by
 have hu25 := Try.underlying25
 have HI0 := Aside0.mk hI
 have HK := Aside0.mk (KeepBut.refl w g none)
 have HL := Aside0.mk hB.size
 clear hI
 have HW0 := Aside0.mk hB.size
 have HB := Aside0.mk hB
 clear hB
 have H : ((spec_l6Rd_pick.f k s0_0 s0_1 a1).bind fun bt156 => ((spec_l91Perm.f k s0_0 bt156.2 (wrap64 (2 * (wrap64 (1 + bt156.1))))).bind fun bt158 => (if 0 ≤ (wrap64 (2 * (wrap64 (1 + bt156.1)))) then (if (wrap64 (2 * (wrap64 (1 + bt156.1))) : Int).toNat ≤ 35184372088832 then (spec_l91Map.l0 k (wrap64 (2 * (wrap64 (1 + bt156.1)))) bt158.1 (List.replicate (wrap64 (2 * (wrap64 (1 + bt156.1))) : Int).toNat 0) 0 s0_0 bt158.2) else (none)) else (none)))) = some (r1, r2, r3) := h
 clear h
 obtain ⟨⟨t156, t157⟩, A30, H⟩ := Option.bind_eq_some_iff.mp H
 dsimp only at H
 have A3 := Aside0.mk A30
 clear A30
 obtain ⟨⟨t158, t161⟩, A40, H⟩ := Option.bind_eq_some_iff.mp H
 dsimp only at H
 have A4 := Aside0.mk A40
 clear A40
 obtain ⟨ji5, hji5⟩ : ∃ j_ : Int, (wrap64 (2 * (wrap64 (1 + t156)))) = j_ := ⟨_, rfl⟩
 replace H : (if 0 ≤ (ji5) then (if (ji5 : Int).toNat ≤ 35184372088832 then (spec_l91Map.l0 k ji5 t158 (List.replicate (ji5 : Int).toNat 0) 0 s0_0 t161) else (none)) else (none)) = some (r1, r2, r3) := by first | (rw [hji5] at H; exact H) | (simp only [hji5] at H ⊢; exact H)
 (try rw [hji5] at A3)
 (try rw [hji5] at A4)
 have hji5w : (IntKind.i64.wrap (2 * (wrap64 (1 + t156)))) = ji5 := (i64_w _).trans hji5
 by_cases c6 : 0 ≤ (ji5)
 ·rw [if_pos c6] at H
  have c6b0 := eq_true c6
  have c6b1 : decide (0 ≤ (ji5)) = true := decide_eq_true c6
  clear c6
  by_cases c7 : (ji5 : Int).toNat ≤ 35184372088832
  case neg =>
   rw [if_neg c7] at H
   exact absurd H (by simp)
  rw [if_pos c7] at H
  have c7b0 := eq_true c7
  have c7b1 : decide ((ji5 : Int).toNat ≤ 35184372088832) = true := decide_eq_true c7
  clear c7
  obtain ⟨y162, hy162⟩ : ∃ y_ : List Int, y_ = (List.replicate (ji5 : Int).toNat 0) := ⟨_, rfl⟩
  replace H : (spec_l91Map.l0 k ji5 t158 y162 0 s0_0 t161) = some (r1, r2, r3) := by first | (rw [hy162]; with_reducible exact H) | (have H2_ := (Option.bind_some _ _).symm.trans H; rw [hy162]; with_reducible exact H2_) | (have H2_ := (Option.bind_some _ _).symm.trans H; with_reducible exact H2_) | with_reducible exact H | (rw [hy162]; exact H) | exact H
  have Ny162 := Aside0.mk hy162
  clear hy162
  have H' := Aside0.mk H
  clear H
  go_enter Try.func12, Try.ntmps12
  go_wp2_with (first | ((with_reducible refine gate_dst (N := 4) rfl ?_); refine bE 4 #[.slice none 0 0, .slice none 0 0] 25 ?_; intro gb155 hg w8 hbox hb; replace HB := Aside0.mk (below_step (by repeat (first | (with_reducible first | exact HB.out | apply below_alloc | apply pw_below_drewN | apply below_drew1 | refine below_set ?_ (IsS47.ge HI0.out)) | exact HB.out)) hb); have BK155 := Aside0.mk (hbox); have GW155 := Aside0.mk ((by rw [hg]; exact (keep_size (w := w) (g := g) (row := none) (by repeat (first | (with_reducible first | exact HK.out | apply KeepBut.set_ | apply keep_drewN | apply keep_drew | apply keep_alloc) | exact HK.out))) : w.heap.size ≤ gb155)); have GE155 := Aside0.mk ((Nat.le_trans HW0.out (by rw [hg]; exact (keep_size (w := w) (g := g) (row := none) (by repeat (first | (with_reducible first | exact HK.out | apply KeepBut.set_ | apply keep_drewN | apply keep_drew | apply keep_alloc) | exact HK.out))) : w.heap.size ≤ gb155) : w0.heap.size ≤ gb155)); replace HK := Aside0.mk (KeepBut.trans (by repeat (first | (with_reducible first | exact HK.out | apply KeepBut.set_ | apply keep_drewN | apply keep_drew | apply keep_alloc) | exact HK.out)) (KeepBut.of_below hb g none) (.inl rfl)); have NB0_155 := Aside0.mk ((by rw [hg]; exact Nat.ne_of_lt (IsS47.lt (show IsS47 w0 _ g s0_0 s0_1 from by repeat (first | (with_reducible first | exact HI0.out | apply IsS47.alloc | apply IsS47.drewN | apply IsS47.drew | apply IsS47.set_1) | exact HI0.out))) : g ≠ gb155)); have NB155_0 := Aside0.mk ((by rw [hg]; exact Nat.ne_of_gt (IsS47.lt (show IsS47 w0 _ g s0_0 s0_1 from by repeat (first | (with_reducible first | exact HI0.out | apply IsS47.alloc | apply IsS47.drewN | apply IsS47.drew | apply IsS47.set_1) | exact HI0.out))) : gb155 ≠ g)); replace HI0 := Aside0.mk (IsS47.below (by repeat (first | (with_reducible first | exact HI0.out | apply IsS47.alloc | apply IsS47.drewN | apply IsS47.drew | apply IsS47.set_1) | exact HI0.out)) hb); clear hb hbox hg) | ((with_reducible refine gate_callee (f := 11) rfl ?_); refine gL (some 16) Try.func11 #[.pointer (some ⟨g, 0, none⟩), .int .i64 a1] ?_; (with_reducible refine (spec_l6Rd_pick.calls k g s0_0 s0_1 a1 t156 t157 w0 _ ?side1 ?side2 A3.out).mono ?_); (case side1 => repeat (first | (with_reducible first | exact HI0.out | apply IsS47.alloc | apply IsS47.drewN | apply IsS47.drew | apply IsS47.set_1 | refine IsS47.far ?_ NB0_155.out _) | exact HI0.out)); (case side2 => repeat (first | (with_reducible first | exact HB.out | apply below_alloc | apply pw_below_drewN | apply below_drew1 | refine below_set ?_ (IsS47.ge HI0.out) | refine below_set ?_ GE155.out) | exact HB.out)); rintro e w9 ⟨rfl, hi, hb, hk⟩; refine ⟨_, rfl, ?_⟩; replace BK155 := Aside0.mk (KeepBut.blk hk (g' := gb155) (o := .cells #[.slice none 0 0, .slice none 0 0] 25 (0, 0)) (kP BK155) NB155_0.out (by simp)); replace HK := Aside0.mk (KeepBut.trans (by repeat (first | (with_reducible first | exact HK.out | apply KeepBut.set_ | apply keep_drewN | apply keep_drew | apply keep_alloc | refine keep_far ?_ GW155.out _) | exact HK.out)) hk (.inl rfl)); replace HB := Aside0.mk (hb); replace HI0 := Aside0.mk (hi); (try clear hb); (try clear hb2); (try clear hk); (try clear hi)) | ((with_reducible refine gate_callee (f := 23) rfl ?_); refine goesL_ (some 21) rfl rfl Try.func23 (by kernel_rfl) rfl #[.pointer (some ⟨g, 0, none⟩), .int .i64 ji5] rfl (by (try simp only [List.map_toArray, List.map_cons, List.map_nil]); first | done | (simp only [hji5]; rfl) | rfl | (simp only [List.length_drop, List.length_take]; rfl)) ?_; (with_reducible refine (spec_l91Perm.calls k g s0_0 t157 ji5 t158 t161 w0 _ ?side1 ?side2 A4.out).mono ?_); (case side1 => repeat (first | (with_reducible first | exact HI0.out | apply IsS47.alloc | apply IsS47.drewN | apply IsS47.drew | apply IsS47.set_1 | refine IsS47.far ?_ NB0_155.out _) | exact HI0.out)); (case side2 => repeat (first | (with_reducible first | exact HB.out | apply below_alloc | apply pw_below_drewN | apply below_drew1 | refine below_set ?_ (IsS47.ge HI0.out) | refine below_set ?_ GE155.out) | exact HB.out)); rintro e w10 ⟨v159, rfl, ho0, hi, hb, hk⟩; refine ⟨_, rfl, ?_⟩; replace BK155 := Aside0.mk (KeepBut.blk hk (g' := gb155) (o := .cells #[.slice none 0 0, .slice none 0 0] 25 (0, 0)) (kP BK155) NB155_0.out (by simp)); have HO160 := Aside0.mk (Kd.R_lower ho0 (keep_size (w := w) (g := g) (row := none) (by repeat (first | (with_reducible first | exact HK.out | apply KeepBut.set_ | apply keep_drewN | apply keep_drew | apply keep_alloc | refine keep_far ?_ GW155.out _) | exact HK.out)))); replace HK := Aside0.mk (KeepBut.trans (by repeat (first | (with_reducible first | exact HK.out | apply KeepBut.set_ | apply keep_drewN | apply keep_drew | apply keep_alloc | refine keep_far ?_ GW155.out _) | exact HK.out)) hk (.inl rfl)); replace HB := Aside0.mk (hb); replace HI0 := Aside0.mk (hi); (try clear hb); (try clear hb2); (try clear hk); (try clear hi); (try clear ho0)) | ((with_reducible refine gate_dst (N := 23) rfl ?_); refine Kd.R_make (Kd.int .i64) _ 3 rfl (N := 23) rfl 23 _ _ rfl ji5 rfl rfl Try.underlying23 (.int .i64 0) 8 info3 rfl (by decide) (by omega) 0 (ok := fun _ => True) (okp := fun _ => True) rfl (fun _ hk => hk) trivial (dT) (Nat.le_trans (Nat.mul_le_mul_right _ (dT : ji5.toNat ≤ 35184372088832)) (by omega)) (Below.refl _ _) (Nat.le_refl _) ?_; intro v163 w11 ho12 hb hg_ hnew_; clear hg_ hnew_; (first | rw [← Ny162.out] at ho12 | (simp only [Int.reduceToNat] at ho12; rw [← Ny162.out] at ho12)); have HO164 := Aside0.mk (Kd.R_lower (Kd.R_new' ho12 (Kd.R_lt (rP HO160))) (keep_size (w := w) (g := g) (row := none) (by repeat (first | (with_reducible first | exact HK.out | apply KeepBut.set_ | apply keep_drewN | apply keep_drew | apply keep_alloc | refine keep_far ?_ GW155.out _) | exact HK.out)))); replace HO160 := Aside0.mk (Kd.R_elder' (rP HO160) (Kd.R_base ho12) hb); replace BK155 := kB BK155 hb; replace HK := Aside0.mk (KeepBut.trans (by repeat (first | (with_reducible first | exact HK.out | apply KeepBut.set_ | apply keep_drewN | apply keep_drew | apply keep_alloc | refine keep_far ?_ GW155.out _) | exact HK.out)) (KeepBut.of_below hb g none) (.inl rfl)); replace HB := Aside0.mk (below_step (by repeat (first | (with_reducible first | exact HB.out | apply below_alloc | apply pw_below_drewN | apply below_drew1 | refine below_set ?_ (IsS47.ge HI0.out) | refine below_set ?_ GE155.out) | exact HB.out)) hb); replace HI0 := Aside0.mk (IsS47.below (by repeat (first | (with_reducible first | exact HI0.out | apply IsS47.alloc | apply IsS47.drewN | apply IsS47.drew | apply IsS47.set_1 | refine IsS47.far ?_ NB0_155.out _) | exact HI0.out)) hb); clear hb ho12))
  go_loopg [8] k (fun kq v8 w' => ∃ (x7_1 : List Int) (x8_1 : Int), v8 = .int .i64 x8_1 ∧ Aside0 (spec_l91Map.l0 kq ji5 t158 x7_1 x8_1 s0_0 t161 = some (r1, r2, r3)) ∧ Aside0 (kq ≤ k) ∧ Aside0 (Kd.R (Kd.int .i64) 3 w' w.heap.size (fun k_ => some k_ ≠ (v163 : Value).ownBlock) v159 t158) ∧ Aside0 (Kd.R (Kd.int .i64) 3 w' w.heap.size (fun k_ => some k_ ≠ (v159 : Value).ownBlock) v163 x7_1) ∧ Aside0 (w'.heap[gb155]? = some (.cells #[(.slice none 0 0), (.slice none 0 0)] 25 (0, 0))) ∧ Aside0 (IsS47 w0 w' g s0_0 t161) ∧ Aside0 (KeepBut w w' g none) ∧ Aside0 (Below w0.heap.size w0 w'))
  case atStart => exact ⟨(y162), (0), eS, H', ⟨Nat.le_refl _⟩, ⟨rT (Kd.R_mono HO160.out (fun _ hk => hk.2))⟩, ⟨rT (Kd.R_mono HO164.out (fun _ hk => hk.2))⟩, ⟨kP BK155⟩, ⟨by repeat (first | (with_reducible first | exact HI0.out | apply IsS47.alloc | apply IsS47.drewN | apply IsS47.drew | apply IsS47.set_1 | refine IsS47.far ?_ NB0_155.out _) | exact HI0.out)⟩, ⟨by repeat (first | (with_reducible first | exact HK.out | apply KeepBut.set_ | apply keep_drewN | apply keep_drew | apply keep_alloc | refine keep_far ?_ GW155.out _) | exact HK.out)⟩, ⟨by repeat (first | (with_reducible first | exact HB.out | apply below_alloc | apply pw_below_drewN | apply below_drew1 | refine below_set ?_ (IsS47.ge HI0.out) | refine below_set ?_ GE155.out) | exact HB.out)⟩⟩
  case round =>
   clear H'
   try clear c1
   try clear c2
   try clear p2
   try clear c6
   try clear c6b0
   try clear c6b1
   try clear p6
   try clear c7
   try clear c7b0
   try clear c7b1
   try clear c11
   try clear c12
   obtain ⟨x7_1, x8_1, rfl, HA, HK1, HO_6, HO_7, BK155, HI0, HK, HB⟩ := hrel
   cases gk with
   | zero => exact absurd HA.out (by simp [spec_l91Map.l0])
   | succ k1 =>
    have H := HA.out
    clear HA
    simp only [spec_l91Map.l0] at H
    by_cases c13 : (wrap64 (x8_1 + 1)) < ji5
    ·rw [if_pos c13] at H
     have c13b0 : decide ((wrap64 (x8_1 + 1)) < ji5) = true := decide_eq_true c13
     clear c13
     by_cases c14 : 0 ≤ x8_1
     case neg =>
      rw [if_neg c14] at H
      exact absurd H (by simp)
     rw [if_pos c14] at H
     have c14b0 : decide (0 ≤ x8_1) = true := decide_eq_true c14
     clear c14
     by_cases c15 : x8_1 < (t158.length : Int)
     case neg =>
      rw [if_neg c15] at H
      exact absurd H (by simp)
     rw [if_pos c15] at H
     have c15b0 : decide (x8_1 < (t158.length : Int)) = true := decide_eq_true c15
     clear c15
     obtain ⟨ji16, hji16⟩ : ∃ j_ : Int, (wrap64 (x8_1 + 1)) = j_ := ⟨_, rfl⟩
     replace H : (if 0 ≤ (ji16) then (if (ji16) < (t158.length : Int) then (if 0 ≤ (rd t158 x8_1) then (if (rd t158 x8_1) < (x7_1.length : Int) then (if 0 ≤ (rd t158 (ji16)) then (if (rd t158 (ji16)) < (x7_1.length : Int) then (spec_l91Map.l0 k1 ji5 t158 ((x7_1.set ((rd t158 x8_1) : Int).toNat (rd t158 (ji16))).set ((rd t158 (ji16)) : Int).toNat (rd t158 x8_1)) (wrap64 (x8_1 + 2)) s0_0 t161) else (none)) else (none)) else (none)) else (none)) else (none)) else (none)) = some (r1, r2, r3) := by first | (rw [hji16] at H; exact H) | (simp only [hji16] at H ⊢; exact H)
     (try rw [hji16] at c13b0)
     have hji16w : (IntKind.i64.wrap (x8_1 + 1)) = ji16 := (i64_w _).trans hji16
     by_cases c17 : 0 ≤ (ji16)
     case neg =>
      rw [if_neg c17] at H
      exact absurd H (by simp)
     rw [if_pos c17] at H
     have c17b0 : decide (0 ≤ (ji16)) = true := decide_eq_true c17
     clear c17
     by_cases c18 : (ji16) < (t158.length : Int)
     case neg =>
      rw [if_neg c18] at H
      exact absurd H (by simp)
     rw [if_pos c18] at H
     have c18b0 : decide ((ji16) < (t158.length : Int)) = true := decide_eq_true c18
     clear c18
     by_cases c19 : 0 ≤ (rd t158 x8_1)
     case neg =>
      rw [if_neg c19] at H
      exact absurd H (by simp)
     rw [if_pos c19] at H
     have c19b0 : decide (0 ≤ (rd t158 x8_1)) = true := decide_eq_true c19
     clear c19
     by_cases c20 : (rd t158 x8_1) < (x7_1.length : Int)
     case neg =>
      rw [if_neg c20] at H
      exact absurd H (by simp)
     rw [if_pos c20] at H
     have c20b0 : decide ((rd t158 x8_1) < (x7_1.length : Int)) = true := decide_eq_true c20
     clear c20
     obtain ⟨y167, hy167⟩ : ∃ y_ : List Int, y_ = (x7_1.set ((rd t158 x8_1) : Int).toNat (rd t158 (ji16))) := ⟨_, rfl⟩
     replace H : (if 0 ≤ (rd t158 (ji16)) then (if (rd t158 (ji16)) < (x7_1.length : Int) then (spec_l91Map.l0 k1 ji5 t158 (y167.set ((rd t158 (ji16)) : Int).toNat (rd t158 x8_1)) (wrap64 (x8_1 + 2)) s0_0 t161) else (none)) else (none)) = some (r1, r2, r3) := by first | (rw [hy167]; with_reducible exact H) | (have H2_ := (Option.bind_some _ _).symm.trans H; rw [hy167]; with_reducible exact H2_) | (have H2_ := (Option.bind_some _ _).symm.trans H; with_reducible exact H2_) | with_reducible exact H | (rw [hy167]; exact H) | exact H
     have Ny167 := Aside0.mk hy167
     clear hy167
     by_cases c22 : 0 ≤ (rd t158 (ji16))
     case neg =>
      rw [if_neg c22] at H
      exact absurd H (by simp)
     rw [if_pos c22] at H
     have c22b0 : decide (0 ≤ (rd t158 (ji16))) = true := decide_eq_true c22
     clear c22
     by_cases c23 : (rd t158 (ji16)) < (x7_1.length : Int)
     case neg =>
      rw [if_neg c23] at H
      exact absurd H (by simp)
     rw [if_pos c23] at H
     have c23b0 : decide ((rd t158 (ji16)) < (x7_1.length : Int)) = true := decide_eq_true c23
     clear c23
     obtain ⟨y170, hy170⟩ : ∃ y_ : List Int, y_ = (y167.set ((rd t158 (ji16)) : Int).toNat (rd t158 x8_1)) := ⟨_, rfl⟩
     replace H : (spec_l91Map.l0 k1 ji5 t158 y170 (wrap64 (x8_1 + 2)) s0_0 t161) = some (r1, r2, r3) := by first | (rw [hy170]; with_reducible exact H) | (have H2_ := (Option.bind_some _ _).symm.trans H; rw [hy170]; with_reducible exact H2_) | (have H2_ := (Option.bind_some _ _).symm.trans H; with_reducible exact H2_) | with_reducible exact H | (rw [hy170]; exact H) | exact H
     have Ny170 := Aside0.mk hy170
     clear hy170
     have H' := Aside0.mk H
     clear H
     try go_wp2
     replace HO_6 := Aside0.mk (Kd.R_drew HO_6.out)
     replace HO_7 := Aside0.mk (Kd.R_drew HO_7.out)
     replace BK155 := Aside0.mk (blk_drew BK155.out)
     replace HI0 := Aside0.mk (IsS47.drew HI0.out)
     replace HK := Aside0.mk (keep_drew HK.out)
     replace HB := Aside0.mk (below_drew1 HB.out)
     obtain ⟨Ao26, co26, eo26⟩ := Kd.R_slice HO_6.out
     (first | subst eo26 | (injection eo26 with f1_ f2_ f3_; have f4_ := f1_.symm; have f5_ := f3_.symm; clear f1_ f2_ f3_; subst f4_; subst f5_))
     have p165 : 0 ≤ (x8_1 : Int) := dT
     have q165 : x8_1 < (t158.length : Int) := dT
     obtain ⟨ad165, e165, hx165_0⟩ := Kd.at_int (Kd.R_reads' HO_6.out).2.2 x8_1 p165 q165
     cases e165
     replace p165 := eq_true p165
     replace q165 := eq_true q165
     have p166 : 0 ≤ ((ji16) : Int) := dT
     have q166 : (ji16) < (t158.length : Int) := dT
     obtain ⟨ad166, e166, hx166_0⟩ := Kd.at_int (Kd.R_reads' HO_6.out).2.2 (ji16) p166 q166
     obtain rfl : ad165 = ad166 := (by injection e166)
     replace p166 := eq_true p166
     replace q166 := eq_true q166
     have p21 : 0 ≤ ((rd t158 x8_1) : Int) := dT
     have q21 : ((rd t158 x8_1) : Int) < ((x7_1.length : Int) : Int) := dT
     obtain ⟨go21, co21, eo21, gb21, gl21, cl21, HG21⟩ := Kd.R_form HO_7.out (by omega)
     (first | cases eo21 | (injection eo21 with ea_ en_ ec_; (first | subst ea_ | (injection ea_ with ea_; subst ea_)); subst ec_; clear en_))
     have GB21 := Aside0.mk gb21
     have GG21 := Aside0.mk HG21
     clear gb21 gl21 HG21
     obtain ⟨hx21_0, hf21_0⟩ := Kd.R_celln 0 HO_7.out ((rd t158 x8_1) : Int) p21 q21
     replace p21 := eq_true p21
     replace q21 := eq_true q21
     have HN0_go21 := Aside0.mk (show g ≠ go21 from by have h_ := IsS47.own_ne HI0.out HO_7.out (by decide); intro e_; exact h_ (by rw [e_]; rfl))
     have HP27 := Kd.R_putn HO_7.out ((rd t158 x8_1) : Int) (rd t158 (ji16))
     rw [← Ny167.out] at HP27
     have HQ27 := Aside0.mk HP27
     clear HP27
     refine start_ (n := 12) (S := fun w' => w'.cell? (ad165.add (x8_1).toNat) = some (.int .i64 (rd t158 x8_1)) ∧ w'.cell? (ad165.add ((ji16)).toNat) = some (.int .i64 (rd t158 (ji16)))) (ds := [11]) (tf 0 12) (by kernel_rfl) rfl rfl ⟨hx165_0, hx166_0⟩ (fun hHeld => ?_); refine with_tabW spec_l91Map.tab7 spec_l91Map.bits7 (fun HT_ HW_ => ?_)
     generalize wr.drew = w25 at HO_6 HO_7 BK155 HI0 HK HB GG21 HQ27 hf21_0 hx165_0 hx166_0 hx21_0 hHeld ⊢
     refine pV 0 30 (tf 1 11) HT_ ?_
     refine pV 1 31 (tf 2 10) HT_ ?_
     refine pV 2 32 (tf 3 9) HT_ ?_
     refine pV 3 33 (tf 4 8) HT_ ?_
     refine pV 5 35 (tB 12 47) HT_ ?_
     refine pV 6 36 (tB 12 111) HT_ ?_
     refine pV 7 37 (tB 12 239) HT_ ?_
     refine pV 8 38 (tB 12 495) HT_ ?_
     refine tV 4 34 (tf 9 3) HT_ HW_ hHeld ?_
     refine tV 9 39 (tf 10 2) HT_ HW_ hHeld ?_
     refine pV 10 40 (tf 11 1) HT_ ?_
     refine last_ (i := 11) (N := none) (tf 12 0) rfl rfl (one_of HT_.out (by kernel_rfl)) (by decide) (fun K hK => ?_)
     refine skip_ (w1 := ?_) (by rfl) rfl ?_ ?_
     rotate_left
     ·go_simp
      rfl
     refine hK.out _ _ ?_
     clear hK K
     refine done_ (done_of HT_.out (by kernel_rfl)) ?_
     try go_wp2
     have n0_ : Aside0 (Kd.R (Kd.int .i64) 3 (w25.setCell ⟨go21, ((rd t158 x8_1) : Int).toNat, none⟩ (.int .i64 (rd t158 (ji16)))) w.heap.size (fun k_ => some k_ ≠ (.slice (some ⟨go21, 0, none⟩) x7_1.length co21 : Value).ownBlock) (.slice (some ad165) t158.length co26) t158) := ⟨rT (Kd.R_mono (Kd.R_far (p := ⟨go21, ((rd t158 x8_1) : Int).toNat, none⟩) (Kd.R_mono HO_6.out (fun k_ hk => (⟨hk, fun e_ => hk (by rw [e_]; rfl)⟩ : _ ∧ k_ ≠ go21))) (fun _ hk => hk.2) (.int .i64 (rd t158 (ji16)))) (fun _ hk => hk.1))⟩
     have n1_ : Aside0 (Kd.R (Kd.int .i64) 3 (w25.setCell ⟨go21, ((rd t158 x8_1) : Int).toNat, none⟩ (.int .i64 (rd t158 (ji16)))) w.heap.size (fun k_ => some k_ ≠ (.slice (some ad165) t158.length co26 : Value).ownBlock) (.slice (some ⟨go21, 0, none⟩) x7_1.length co21) y167) := ⟨rP HQ27⟩
     have n2_ : Aside0 ((w25.setCell ⟨go21, ((rd t158 x8_1) : Int).toNat, none⟩ (.int .i64 (rd t158 (ji16)))).heap[gb155]? = some (.cells #[.slice none 0 0, .slice none 0 0] 25 (0, 0))) := ⟨by (with_reducible repeat (first | refine blk_drewN ?_ _ | refine blk_drew ?_ | refine blk_alloc ?_ _)); refine blk_far ?_ (by have h_ := Kd.R_ne HO_7.out BK155.out (by decide); intro e_; exact h_ (by rw [e_]; rfl)) _; (with_reducible repeat (first | refine blk_drewN ?_ _ | refine blk_drew ?_ | refine blk_alloc ?_ _)); exact BK155.out⟩
     have n3_ : Aside0 (IsS47 w0 (w25.setCell ⟨go21, ((rd t158 x8_1) : Int).toNat, none⟩ (.int .i64 (rd t158 (ji16)))) g s0_0 t161) := ⟨by repeat (first | (with_reducible first | exact HI0.out | apply IsS47.alloc | apply IsS47.drewN | apply IsS47.drew | apply IsS47.set_1 | refine IsS47.far ?_ HN0_go21.out _ | refine IsS47.far ?_ NB0_155.out _) | exact HI0.out)⟩
     have n4_ : Aside0 (KeepBut w (w25.setCell ⟨go21, ((rd t158 x8_1) : Int).toNat, none⟩ (.int .i64 (rd t158 (ji16)))) g none) := ⟨by repeat (first | (with_reducible first | exact HK.out | apply KeepBut.set_ | apply keep_drewN | apply keep_drew | apply keep_alloc | refine keep_far ?_ GB21.out _ | refine keep_far ?_ GW155.out _) | exact HK.out)⟩
     have n5_ : Aside0 (Below w0.heap.size w0 (w25.setCell ⟨go21, ((rd t158 x8_1) : Int).toNat, none⟩ (.int .i64 (rd t158 (ji16))))) := ⟨by repeat (first | (with_reducible first | exact HB.out | apply below_alloc | apply pw_below_drewN | apply below_drew1 | refine below_set ?_ (Nat.le_trans HL.out GB21.out) | refine below_set ?_ (IsS47.ge HI0.out) | refine below_set ?_ GE155.out) | exact HB.out)⟩
     (try clear HO_6)
     (try clear HO_7)
     (try clear BK155)
     (try clear HI0)
     (try clear HK)
     (try clear HB)
     generalize (w25.setCell ⟨go21, ((rd t158 x8_1) : Int).toNat, none⟩ (.int .i64 (rd t158 (ji16)))) = w28 at n0_ n1_ n2_ n3_ n4_ n5_ ⊢
     have HO_6 := n0_
     have HO_7 := n1_
     have BK155 := n2_
     have HI0 := n3_
     have HK := n4_
     have HB := n5_
     clear n0_ n1_ n2_ n3_ n4_ n5_
     replace HO_6 := Aside0.mk (Kd.R_drew HO_6.out)
     replace HO_7 := Aside0.mk (Kd.R_drew HO_7.out)
     replace BK155 := Aside0.mk (blk_drew BK155.out)
     replace HI0 := Aside0.mk (IsS47.drew HI0.out)
     replace HK := Aside0.mk (keep_drew HK.out)
     replace HB := Aside0.mk (below_drew1 HB.out)
     have p168 : 0 ≤ ((ji16) : Int) := dT
     have q168 : (ji16) < (t158.length : Int) := dT
     obtain ⟨ad168, e168, hx168_0⟩ := Kd.at_int (Kd.R_reads' HO_6.out).2.2 (ji16) p168 q168
     obtain rfl : ad165 = ad168 := (by injection e168)
     replace p168 := eq_true p168
     replace q168 := eq_true q168
     have p169 : 0 ≤ (x8_1 : Int) := dT
     have q169 : x8_1 < (t158.length : Int) := dT
     obtain ⟨ad169, e169, hx169_0⟩ := Kd.at_int (Kd.R_reads' HO_6.out).2.2 x8_1 p169 q169
     obtain rfl : ad165 = ad169 := (by injection e169)
     replace p169 := eq_true p169
     replace q169 := eq_true q169
     have p24 : 0 ≤ ((rd t158 (ji16)) : Int) := dT
     have q24 : ((rd t158 (ji16)) : Int) < ((x7_1.length : Int) : Int) := dT
     obtain ⟨hx24_0, hf24_0⟩ := Kd.R_celln 0 HO_7.out ((rd t158 (ji16)) : Int) p24 q24
     replace p24 := eq_true p24
     replace q24 := eq_true q24
     have HN0_go21 := Aside0.mk (show g ≠ go21 from by have h_ := IsS47.own_ne HI0.out HO_7.out (by decide); intro e_; exact h_ (by rw [e_]; rfl))
     have HP30 := Kd.R_putn HO_7.out ((rd t158 (ji16)) : Int) (rd t158 x8_1)
     rw [← Ny170.out] at HP30
     have HQ30 := Aside0.mk HP30
     clear HP30
     refine start_ (n := 12) (S := fun w' => w'.cell? (ad165.add ((ji16)).toNat) = some (.int .i64 (rd t158 (ji16))) ∧ w'.cell? (ad165.add (x8_1).toNat) = some (.int .i64 (rd t158 x8_1))) (ds := [11]) (tf 0 12) (by kernel_rfl) rfl rfl ⟨hx168_0, hx169_0⟩ (fun hHeld => ?_); refine with_tabW spec_l91Map.tab8 spec_l91Map.bits8 (fun HT_ HW_ => ?_)
     generalize w28.drew = w29 at HO_6 HO_7 BK155 HI0 HK HB HQ27 HQ30 hf24_0 hx168_0 hx169_0 hx24_0 hHeld ⊢
     refine pV 0 41 (tf 1 11) HT_ ?_
     refine pV 1 42 (tf 2 10) HT_ ?_
     refine pV 2 43 (tf 3 9) HT_ ?_
     refine pV 3 44 (tf 4 8) HT_ ?_
     refine pV 4 45 (tf 5 7) HT_ ?_
     refine pV 6 47 (tB 12 95) HT_ ?_
     refine pV 7 48 (tB 12 223) HT_ ?_
     refine pV 8 49 (tB 12 479) HT_ ?_
     refine tV 5 46 (tf 9 3) HT_ HW_ hHeld ?_
     refine tV 9 50 (tf 10 2) HT_ HW_ hHeld ?_
     refine pV 10 51 (tf 11 1) HT_ ?_
     refine last_ (i := 11) (N := none) (tf 12 0) rfl rfl (one_of HT_.out (by kernel_rfl)) (by decide) (fun K hK => ?_)
     refine skip_ (w1 := ?_) (by rfl) rfl ?_ ?_
     rotate_left
     ·go_simp
      rfl
     refine hK.out _ _ ?_
     clear hK K
     refine done_ (done_of HT_.out (by kernel_rfl)) ?_
     try go_wp2
     go_roundg k1
     case measure => have := HK1.out; omega
     case rel => exact ⟨(y170), (wrap64 (x8_1 + 2)), eS, H', ⟨by have := HK1.out; omega⟩, ⟨rT (Kd.R_mono (Kd.R_far (p := ⟨go21, ((rd t158 (ji16)) : Int).toNat, none⟩) (Kd.R_mono HO_6.out (fun k_ hk => (⟨hk, fun e_ => hk (by rw [e_]; rfl)⟩ : _ ∧ k_ ≠ go21))) (fun _ hk => hk.2) (.int .i64 (rd t158 x8_1))) (fun _ hk => hk.1))⟩, ⟨rP HQ30⟩, ⟨by (with_reducible repeat (first | refine blk_drewN ?_ _ | refine blk_drew ?_ | refine blk_alloc ?_ _)); refine blk_far ?_ (by have h_ := Kd.R_ne HO_7.out BK155.out (by decide); intro e_; exact h_ (by rw [e_]; rfl)) _; (with_reducible repeat (first | refine blk_drewN ?_ _ | refine blk_drew ?_ | refine blk_alloc ?_ _)); exact BK155.out⟩, ⟨by repeat (first | (with_reducible first | exact HI0.out | apply IsS47.alloc | apply IsS47.drewN | apply IsS47.drew | apply IsS47.set_1 | refine IsS47.far ?_ HN0_go21.out _ | refine IsS47.far ?_ NB0_155.out _) | exact HI0.out)⟩, ⟨by repeat (first | (with_reducible first | exact HK.out | apply KeepBut.set_ | apply keep_drewN | apply keep_drew | apply keep_alloc | refine keep_far ?_ GB21.out _ | refine keep_far ?_ GW155.out _) | exact HK.out)⟩, ⟨by repeat (first | (with_reducible first | exact HB.out | apply below_alloc | apply pw_below_drewN | apply below_drew1 | refine below_set ?_ (Nat.le_trans HL.out GB21.out) | refine below_set ?_ (IsS47.ge HI0.out) | refine below_set ?_ GE155.out) | exact HB.out)⟩⟩
    rw [if_neg c13] at H
    have c13b0 : decide ((wrap64 (x8_1 + 1)) < ji5) = false := decide_eq_false c13
    clear c13
    obtain ⟨⟨t171, t174⟩, A310, H⟩ := Option.bind_eq_some_iff.mp H
    dsimp only at H
    have A31 := Aside0.mk A310
    clear A310
    have H' := Aside0.mk H
    clear H
    go_wp2_with (first | ((with_reducible refine gate_callee (f := 23) rfl ?_); refine goesL_ (some 54) rfl rfl Try.func23 (by kernel_rfl) rfl #[.pointer (some ⟨g, 0, none⟩), .int .i64 ji5] rfl (by (try simp only [List.map_toArray, List.map_cons, List.map_nil]); first | done | (simp only [hji5]; rfl) | rfl | (simp only [List.length_drop, List.length_take]; rfl)) ?_; (with_reducible refine (spec_l91Perm.calls k1 g s0_0 t161 ji5 t171 t174 w0 _ ?side1 ?side2 A31.out).mono ?_); (case side1 => repeat (first | (with_reducible first | exact HI0.out | apply IsS47.alloc | apply IsS47.drewN | apply IsS47.drew | apply IsS47.set_1 | refine IsS47.far ?_ NB0_155.out _) | exact HI0.out)); (case side2 => repeat (first | (with_reducible first | exact HB.out | apply below_alloc | apply pw_below_drewN | apply below_drew1 | refine below_set ?_ (IsS47.ge HI0.out) | refine below_set ?_ GE155.out) | exact HB.out)); rintro e w32 ⟨v172, rfl, ho0, hi, hb, hk⟩; refine ⟨_, rfl, ?_⟩; replace BK155 := Aside0.mk (KeepBut.blk hk (g' := gb155) (o := .cells #[.slice none 0 0, .slice none 0 0] 25 (0, 0)) (kP BK155) NB155_0.out (by simp)); have HO173 := Aside0.mk (Kd.R_lower (Kd.R_new' (Kd.R_new' ho0 (Kd.R_lt (rP HO_6))) (Kd.R_lt (rP HO_7))) (keep_size (w := w) (g := g) (row := none) (by repeat (first | (with_reducible first | exact HK.out | apply KeepBut.set_ | apply keep_drewN | apply keep_drew | apply keep_alloc | refine keep_far ?_ GW155.out _) | exact HK.out)))); replace HO_6 := Aside0.mk (Kd.R_mono (Kd.R_told (Kd.R_oldK (IsS47.apart (show IsS47 w0 _ g s0_0 t161 from by repeat (first | (with_reducible first | exact HI0.out | apply IsS47.alloc | apply IsS47.drewN | apply IsS47.drew | apply IsS47.set_1 | refine IsS47.far ?_ NB0_155.out _) | exact HI0.out)) (rP HO_6) (by decide)) hk) (Kd.R_base ho0)) (fun _ h_ => h_.1)); replace HO_7 := Aside0.mk (Kd.R_mono (Kd.R_told (Kd.R_oldK (IsS47.apart (show IsS47 w0 _ g s0_0 t161 from by repeat (first | (with_reducible first | exact HI0.out | apply IsS47.alloc | apply IsS47.drewN | apply IsS47.drew | apply IsS47.set_1 | refine IsS47.far ?_ NB0_155.out _) | exact HI0.out)) (rP HO_7) (by decide)) hk) (Kd.R_base ho0)) (fun _ h_ => h_.1)); replace HK := Aside0.mk (KeepBut.trans (by repeat (first | (with_reducible first | exact HK.out | apply KeepBut.set_ | apply keep_drewN | apply keep_drew | apply keep_alloc | refine keep_far ?_ GW155.out _) | exact HK.out)) hk (.inl rfl)); replace HB := Aside0.mk (hb); replace HI0 := Aside0.mk (hi); (try clear hb); (try clear hb2); (try clear hk); (try clear hi); (try clear ho0); obtain ⟨Ao33, co33, eo33⟩ := Kd.R_slice HO_7.out; subst eo33; obtain ⟨Ao34, co34, eo34⟩ := Kd.R_slice HO173.out; subst eo34) | ((with_reducible refine gate_dst (N := 9) rfl ?_); refine bE 9 #[.slice none 0 0, .slice none 0 0] 25 ?_; intro gb175 hg w35 hbox hb; replace HO_6 := rB HO_6 hb; replace HO_7 := rB HO_7 hb; replace HO173 := rB HO173 hb; replace HB := Aside0.mk (below_step (by repeat (first | (with_reducible first | exact HB.out | apply below_alloc | apply pw_below_drewN | apply below_drew1 | refine below_set ?_ (IsS47.ge HI0.out) | refine below_set ?_ GE155.out) | exact HB.out)) hb); have BK175 := Aside0.mk (hbox); have GW175 := Aside0.mk ((by rw [hg]; exact (keep_size (w := w) (g := g) (row := none) (by repeat (first | (with_reducible first | exact HK.out | apply KeepBut.set_ | apply keep_drewN | apply keep_drew | apply keep_alloc | refine keep_far ?_ GW155.out _) | exact HK.out))) : w.heap.size ≤ gb175)); have GE175 := Aside0.mk ((Nat.le_trans HW0.out (by rw [hg]; exact (keep_size (w := w) (g := g) (row := none) (by repeat (first | (with_reducible first | exact HK.out | apply KeepBut.set_ | apply keep_drewN | apply keep_drew | apply keep_alloc | refine keep_far ?_ GW155.out _) | exact HK.out))) : w.heap.size ≤ gb175) : w0.heap.size ≤ gb175)); replace HK := Aside0.mk (KeepBut.trans (by repeat (first | (with_reducible first | exact HK.out | apply KeepBut.set_ | apply keep_drewN | apply keep_drew | apply keep_alloc | refine keep_far ?_ GW155.out _) | exact HK.out)) (KeepBut.of_below hb g none) (.inl rfl)); have NB155_175 := nL BK155 hg; have NB175_155 := nG BK155 hg; replace BK155 := kB BK155 hb; have NB0_175 := Aside0.mk ((by rw [hg]; exact Nat.ne_of_lt (IsS47.lt (show IsS47 w0 _ g s0_0 t174 from by repeat (first | (with_reducible first | exact HI0.out | apply IsS47.alloc | apply IsS47.drewN | apply IsS47.drew | apply IsS47.set_1 | refine IsS47.far ?_ NB0_155.out _) | exact HI0.out))) : g ≠ gb175)); have NB175_0 := Aside0.mk ((by rw [hg]; exact Nat.ne_of_gt (IsS47.lt (show IsS47 w0 _ g s0_0 t174 from by repeat (first | (with_reducible first | exact HI0.out | apply IsS47.alloc | apply IsS47.drewN | apply IsS47.drew | apply IsS47.set_1 | refine IsS47.far ?_ NB0_155.out _) | exact HI0.out))) : gb175 ≠ g)); replace HI0 := Aside0.mk (IsS47.below (by repeat (first | (with_reducible first | exact HI0.out | apply IsS47.alloc | apply IsS47.drewN | apply IsS47.drew | apply IsS47.set_1 | refine IsS47.far ?_ NB0_155.out _) | exact HI0.out)) hb); clear hb hbox hg; have hnb36 := NB175_155.out; have hnc36 := NB155_175.out; have hnb37 := NB175_0.out; have hnc37 := NB0_175.out; have hcz38_0 := zc0 BK175; have hcz38_1 := zc1 BK175; have hfz38_0 := blk_frozen BK175.out 0; have hfz38_1 := blk_frozen BK175.out 1))
    go_loopg [10] k1 (fun kq v10 w' => ∃ (x10_2 : Int) (x176000_2 : List Int) (x176001_2 : List Int) (u176000 : Value) (u176001 : Value), v10 = .int .i64 x10_2 ∧ Aside0 (spec_l91Map.l1 kq ji5 x10_2 s0_0 t174 x176000_2 x176001_2 = some (r1, r2, r3)) ∧ Aside0 (kq ≤ k1) ∧ Aside0 (Kd.Q (Kd.int .i64) 3 w' w.heap.size (fun k_ => some k_ ≠ (u176001 : Value).ownBlock) u176000 x176000_2) ∧ Aside0 (Kd.R (Kd.int .i64) 3 w' w.heap.size (fun k_ => some k_ ≠ (u176000 : Value).ownBlock) u176001 x176001_2) ∧ Aside0 (w'.heap[gb155]? = some (.cells #[(.slice none 0 0), (.slice none 0 0)] 25 (0, 0))) ∧ Aside0 (w'.heap[gb175]? = some (.cells #[u176000, u176001] 25 (0, 0))) ∧ Aside0 (IsS47 w0 w' g s0_0 t174) ∧ Aside0 (KeepBut w w' g none) ∧ Aside0 (Below w0.heap.size w0 w'))
    case atStart => exact ⟨(0), (t171), (x7_1), (.slice Ao34 t171.length co34), (.slice Ao33 x7_1.length co33), eS, H', ⟨Nat.le_refl _⟩, ⟨Kd.Q_of_R (rT (Kd.R_mono (rF gb175 1 (rF gb175 0 (rY HO173 BK175) (.slice Ao34 t171.length co34)) (.slice Ao33 x7_1.length co33)) (fun _ hk => hk.1.2)))⟩, ⟨rT (Kd.R_mono (rF gb175 1 (rF gb175 0 (rY HO_7 BK175) (.slice Ao34 t171.length co34)) (.slice Ao33 x7_1.length co33)) (fun _ hk => hk.1.2))⟩, ⟨kF BK155⟩, ⟨by (with_reducible repeat (first | refine blk_drewN ?_ _ | refine blk_drew ?_ | refine blk_alloc ?_ _)); refine blk_put (cs := #[.slice Ao34 t171.length co34, .slice none 0 0]) ?_ 1 _ rfl; (with_reducible repeat (first | refine blk_drewN ?_ _ | refine blk_drew ?_ | refine blk_alloc ?_ _)); refine blk_put (cs := #[.slice none 0 0, .slice none 0 0]) ?_ 0 _ rfl; (with_reducible repeat (first | refine blk_drewN ?_ _ | refine blk_drew ?_ | refine blk_alloc ?_ _)); exact BK175.out⟩, ⟨by repeat (first | (with_reducible first | exact HI0.out | apply IsS47.alloc | apply IsS47.drewN | apply IsS47.drew | apply IsS47.set_1 | refine IsS47.far ?_ NB0_155.out _ | refine IsS47.far ?_ NB0_175.out _) | exact HI0.out)⟩, ⟨by repeat (first | (with_reducible first | exact HK.out | apply KeepBut.set_ | apply keep_drewN | apply keep_drew | apply keep_alloc | refine keep_far ?_ GW155.out _ | refine keep_far ?_ GW175.out _) | exact HK.out)⟩, ⟨by repeat (first | (with_reducible first | exact HB.out | apply below_alloc | apply pw_below_drewN | apply below_drew1 | refine below_set ?_ (IsS47.ge HI0.out) | refine below_set ?_ GE155.out | refine below_set ?_ GE175.out) | exact HB.out)⟩⟩
    case round =>
     clear H'
     try clear c1
     try clear p1
     try clear q1
     try clear hx1
     try clear c2
     try clear p2
     try clear q2
     try clear hx2
     try clear hf2
     try clear c3
     try clear c6
     try clear c6b0
     try clear c6b1
     try clear p6
     try clear c7
     try clear c7b0
     try clear c7b1
     try clear c11
     try clear c12
     try clear c13
     try clear c13b0
     try clear c14
     try clear c14b0
     try clear c15
     try clear c15b0
     try clear p16
     try clear q16
     try clear hx16
     try clear c17
     try clear c17b0
     try clear c18
     try clear c18b0
     try clear c19
     try clear c19b0
     try clear c20
     try clear c20b0
     try clear p21
     try clear q21
     try clear hx21
     try clear hf21
     try clear c22
     try clear c22b0
     try clear c23
     try clear c23b0
     try clear p24
     try clear q24
     try clear hx24
     try clear hf24
     try clear c36
     try clear c37
     try clear hcz38_0
     try clear hcz38_1
     try clear hfz38_0
     try clear hfz38_1
     try clear hx165_0
     try clear hx166_0
     try clear hx168_0
     try clear hx169_0
     try clear hx21_0
     try clear hx24_0
     try clear p165
     try clear p166
     try clear p168
     try clear p169
     try clear p2
     try clear p21
     try clear p24
     try clear p6
     try clear q165
     try clear q166
     try clear q168
     try clear q169
     try clear q21
     try clear q24
     obtain ⟨x10_2, x176000_2, x176001_2, u176000, u176001, rfl, HA, HK2, HO_176000, HO_176001, BK155, BK175, HI0, HK, HB⟩ := hrel
     cases gk with
     | zero => exact absurd HA.out (by simp [spec_l91Map.l1])
     | succ k2 =>
      have H := HA.out
      clear HA
      simp only [spec_l91Map.l1] at H
      have HC39 := Aside0.mk H
      clear H
      go_upto_region 11 with (fail)
      go_cut [64] (fun v64 wc => ∃ (kq : Nat) (x64_38 : Bool), v64 = .bool x64_38 ∧ Aside0 (spec_l91Map.j2 kq ji5 x10_2 x64_38 s0_0 t174 x176000_2 x176001_2 = some (r1, r2, r3)) ∧ Aside0 (kq ≤ k2) ∧ Aside0 (Kd.Q (Kd.int .i64) 3 wc w.heap.size (fun k_ => some k_ ≠ (u176001 : Value).ownBlock) u176000 x176000_2) ∧ Aside0 (Kd.R (Kd.int .i64) 3 wc w.heap.size (fun k_ => some k_ ≠ (u176000 : Value).ownBlock) u176001 x176001_2) ∧ Aside0 (wc.heap[gb155]? = some (.cells #[(.slice none 0 0), (.slice none 0 0)] 25 (0, 0))) ∧ Aside0 (wc.heap[gb175]? = some (.cells #[u176000, u176001] 25 (0, 0))) ∧ Aside0 (IsS47 w0 wc g s0_0 t174) ∧ Aside0 (KeepBut w wc g none) ∧ Aside0 (Below w0.heap.size w0 wc))
      case first =>
       have H := HC39.out
       clear HC39
       by_cases c40 : x10_2 < ji5
       case neg =>
        rw [if_neg c40] at H
        have c40b0 : decide (x10_2 < ji5) = false := decide_eq_false c40
        clear c40
        (first | rw [c40b0] | (simp only [i64_w, i32_w]; rw [c40b0]) | skip)
        have H' := Aside0.mk H
        clear H
        go_wp2
        go_meet
        case rel => exact ⟨_, (false), eS, H', ⟨by have := HK1.out; have := HK2.out; first | omega | exact Nat.le_refl _⟩, ⟨qP HO_176000⟩, ⟨rP HO_176001⟩, ⟨kP BK155⟩, ⟨kP BK175⟩, ⟨by repeat (first | (with_reducible first | exact HI0.out | apply IsS47.alloc | apply IsS47.drewN | apply IsS47.drew | apply IsS47.set_1 | refine IsS47.far ?_ NB0_155.out _ | refine IsS47.far ?_ NB0_175.out _) | exact HI0.out)⟩, ⟨by repeat (first | (with_reducible first | exact HK.out | apply KeepBut.set_ | apply keep_drewN | apply keep_drew | apply keep_alloc | refine keep_far ?_ GW155.out _ | refine keep_far ?_ GW175.out _) | exact HK.out)⟩, ⟨by repeat (first | (with_reducible first | exact HB.out | apply below_alloc | apply pw_below_drewN | apply below_drew1 | refine below_set ?_ (IsS47.ge HI0.out) | refine below_set ?_ GE155.out | refine below_set ?_ GE175.out) | exact HB.out)⟩⟩
       rw [if_pos c40] at H
       have c40b0 : decide (x10_2 < ji5) = true := decide_eq_true c40
       clear c40
       (first | rw [c40b0] | (simp only [i64_w, i32_w]; rw [c40b0]) | skip)
       obtain ⟨t176, A410, H⟩ := Option.bind_eq_some_iff.mp H
       have A41 := Aside0.mk A410
       clear A410
       have H' := Aside0.mk H
       clear H
       have hnb42 := NB175_155.out
       have hnc42 := NB155_175.out
       have hnb43 := NB175_0.out
       have hnc43 := NB0_175.out
       have hcz44_0 := zc0 BK175
       have hcz44_1 := zc1 BK175
       have hfz44_0 := blk_frozen BK175.out 0
       have hfz44_1 := blk_frozen BK175.out 1
       obtain ⟨Ao45, co45, eo45, _⟩ := Kd.Q_slice HO_176000.out
       subst eo45
       obtain ⟨Ao46, co46, eo46⟩ := Kd.R_slice HO_176001.out
       subst eo46
       go_wp2_with (first | (go_at_call 17; (with_reducible refine (spec_MapValid.calls k2 _ _ x176000_2 _ _ x176001_2 t176 _ ?side1 ?side2 ?side3 ?side4 A41.out).mono ?_); (case side1 => exact cP (Kd.Q_reads' HO_176000.out).2.2); (case side2 => exact (Kd.Q_reads' HO_176000.out).2.1); (case side3 => exact cP (Kd.R_reads' HO_176001.out).2.2); (case side4 => exact (Kd.R_reads' HO_176001.out).2.1); rintro e w47 ⟨rfl, hb⟩; replace HO_176000 := Aside0.mk (Kd.Q_below (qP HO_176000) hb); replace HO_176001 := rB HO_176001 hb; replace BK155 := kB BK155 hb; replace BK175 := kB BK175 hb; replace HK := Aside0.mk (KeepBut.trans (by repeat (first | (with_reducible first | exact HK.out | apply KeepBut.set_ | apply keep_drewN | apply keep_drew | apply keep_alloc | refine keep_far ?_ GW155.out _ | refine keep_far ?_ GW175.out _) | exact HK.out)) (KeepBut.of_below hb g none) (.inl rfl)); replace HB := Aside0.mk (below_step (by repeat (first | (with_reducible first | exact HB.out | apply below_alloc | apply pw_below_drewN | apply below_drew1 | refine below_set ?_ (IsS47.ge HI0.out) | refine below_set ?_ GE155.out | refine below_set ?_ GE175.out) | exact HB.out)) hb); replace HI0 := Aside0.mk (IsS47.below (by repeat (first | (with_reducible first | exact HI0.out | apply IsS47.alloc | apply IsS47.drewN | apply IsS47.drew | apply IsS47.set_1 | refine IsS47.far ?_ NB0_155.out _ | refine IsS47.far ?_ NB0_175.out _) | exact HI0.out)) hb); (try clear hb); (try clear hb2); (try clear hk); (try clear hi)))
       go_meet
       case rel => exact ⟨_, (!t176), eS, H', ⟨by have := HK1.out; have := HK2.out; first | omega | exact Nat.le_refl _⟩, ⟨qP HO_176000⟩, ⟨rP HO_176001⟩, ⟨kP BK155⟩, ⟨kP BK175⟩, ⟨by repeat (first | (with_reducible first | exact HI0.out | apply IsS47.alloc | apply IsS47.drewN | apply IsS47.drew | apply IsS47.set_1 | refine IsS47.far ?_ NB0_155.out _ | refine IsS47.far ?_ NB0_175.out _) | exact HI0.out)⟩, ⟨by repeat (first | (with_reducible first | exact HK.out | apply KeepBut.set_ | apply keep_drewN | apply keep_drew | apply keep_alloc | refine keep_far ?_ GW155.out _ | refine keep_far ?_ GW175.out _) | exact HK.out)⟩, ⟨by repeat (first | (with_reducible first | exact HB.out | apply below_alloc | apply pw_below_drewN | apply below_drew1 | refine below_set ?_ (IsS47.ge HI0.out) | refine below_set ?_ GE155.out | refine below_set ?_ GE175.out) | exact HB.out)⟩⟩
      clear HC39
      try clear c1
      try clear p1
      try clear q1
      try clear hx1
      try clear c2
      try clear p2
      try clear q2
      try clear hx2
      try clear hf2
      try clear c3
      try clear c4
      try clear c6
      try clear c6b0
      try clear c6b1
      try clear p6
      try clear c7
      try clear c7b0
      try clear c7b1
      try clear c11
      try clear c12
      try clear c13
      try clear c13b0
      try clear c14
      try clear c14b0
      try clear c15
      try clear c15b0
      try clear p16
      try clear q16
      try clear hx16
      try clear c17
      try clear c17b0
      try clear c18
      try clear c18b0
      try clear c19
      try clear c19b0
      try clear c20
      try clear c20b0
      try clear p21
      try clear q21
      try clear hx21
      try clear hf21
      try clear c22
      try clear c22b0
      try clear c23
      try clear c23b0
      try clear p24
      try clear q24
      try clear hx24
      try clear hf24
      try clear c36
      try clear c37
      try clear c40
      try clear c40b0
      try clear c42
      try clear c43
      try clear hcz38_0
      try clear hcz38_1
      try clear hcz44_0
      try clear hcz44_1
      try clear hfz38_0
      try clear hfz38_1
      try clear hfz44_0
      try clear hfz44_1
      try clear hx165_0
      try clear hx166_0
      try clear hx168_0
      try clear hx169_0
      try clear hx21_0
      try clear hx24_0
      try clear p1
      try clear p16
      try clear p165
      try clear p166
      try clear p168
      try clear p169
      try clear p2
      try clear p21
      try clear p24
      try clear p6
      try clear q1
      try clear q16
      try clear q165
      try clear q166
      try clear q168
      try clear q169
      try clear q2
      try clear q21
      try clear q24
      obtain ⟨kq, x64_38, rfl, HA, HJ38, HO_176000, HO_176001, BK155, BK175, HI0, HK, HB⟩ := hcut
      cases kq with
      | zero => exact absurd HA.out (by simp [spec_l91Map.j2])
      | succ kj38 =>
       have H := HA.out
       clear HA
       simp only [spec_l91Map.j2] at H
       by_cases c48 : x64_38 = true
       case neg =>
        replace c48 := Bool.eq_false_iff.mpr c48
        subst c48
        rw [iF] at H
        obtain ⟨⟨t185, t186⟩, A740, H⟩ := Option.bind_eq_some_iff.mp H
        dsimp only at H
        have A74 := Aside0.mk A740
        clear A740
        by_cases c75 : t185 = 0
        ·rw [if_pos c75] at H
         have c75b0 : (t185 == 0) = true := beq_iff_eq.mpr c75
         have c75b1 : (t185 != 0) = false := bne_eq_false_iff_eq.mpr c75
         clear c75
         by_cases c76 : 0 < (x176001_2.length : Int)
         case neg =>
          rw [if_neg c76] at H
          exact absurd H (by simp)
         rw [if_pos c76] at H
         have c76b0 : decide (0 < (x176001_2.length : Int)) = true := decide_eq_true c76
         have c76b1 : decide (0 < x176001_2.length) = true := decide_eq_true (by omega)
         clear c76
         obtain ⟨y187, hy187⟩ : ∃ y_ : List Int, y_ = (x176001_2.set (0 : Int).toNat 0) := ⟨_, rfl⟩
         replace H : (some (x176000_2, y187, t186)) = some (r1, r2, r3) := by first | (rw [hy187]; with_reducible exact H) | (have H2_ := (Option.bind_some _ _).symm.trans H; rw [hy187]; with_reducible exact H2_) | (have H2_ := (Option.bind_some _ _).symm.trans H; with_reducible exact H2_) | with_reducible exact H | (rw [hy187]; exact H) | exact H
         have Ny187 := Aside0.mk hy187
         clear hy187
         simp only [Option.some.injEq, Prod.mk.injEq] at H
         obtain ⟨rfl, rfl, rfl⟩ := H
         go_wp2_with (first | ((with_reducible refine gate_callee (f := 11) rfl ?_); refine gL (some 97) Try.func11 #[.pointer (some ⟨g, 0, none⟩), .int .i64 50] ?_; (with_reducible refine (spec_l6Rd_pick.calls kj38 g s0_0 t174 50 t185 t186 w0 _ ?side1 ?side2 A74.out).mono ?_); (case side1 => repeat (first | (with_reducible first | exact HI0.out | apply IsS47.alloc | apply IsS47.drewN | apply IsS47.drew | apply IsS47.set_1 | refine IsS47.far ?_ NB0_155.out _ | refine IsS47.far ?_ NB0_175.out _) | exact HI0.out)); (case side2 => repeat (first | (with_reducible first | exact HB.out | apply below_alloc | apply pw_below_drewN | apply below_drew1 | refine below_set ?_ (IsS47.ge HI0.out) | refine below_set ?_ GE155.out | refine below_set ?_ GE175.out) | exact HB.out)); rintro e w78 ⟨rfl, hi, hb, hk⟩; refine ⟨_, rfl, ?_⟩; replace HO_176000 := Aside0.mk (Kd.Q_mono (Kd.Q_keep (IsS47.apartQ (show IsS47 w0 _ g s0_0 t174 from by repeat (first | (with_reducible first | exact HI0.out | apply IsS47.alloc | apply IsS47.drewN | apply IsS47.drew | apply IsS47.set_1 | refine IsS47.far ?_ NB0_155.out _ | refine IsS47.far ?_ NB0_175.out _) | exact HI0.out)) (qP HO_176000) (by decide)) hk (fun _ h => h.2)) (fun _ h => h.1)); replace HO_176001 := Aside0.mk (Kd.R_mono (Kd.R_keep (IsS47.apart (show IsS47 w0 _ g s0_0 t174 from by repeat (first | (with_reducible first | exact HI0.out | apply IsS47.alloc | apply IsS47.drewN | apply IsS47.drew | apply IsS47.set_1 | refine IsS47.far ?_ NB0_155.out _ | refine IsS47.far ?_ NB0_175.out _) | exact HI0.out)) (rP HO_176001) (by decide)) hk (fun _ h => h.2)) (fun _ h => h.1)); replace BK155 := Aside0.mk (KeepBut.blk hk (g' := gb155) (o := .cells #[.slice none 0 0, .slice none 0 0] 25 (0, 0)) (kP BK155) NB155_0.out (by simp)); replace BK175 := Aside0.mk (KeepBut.blk hk (g' := gb175) (o := .cells #[u176000, u176001] 25 (0, 0)) (kP BK175) NB175_0.out (by simp)); replace HK := Aside0.mk (KeepBut.trans (by repeat (first | (with_reducible first | exact HK.out | apply KeepBut.set_ | apply keep_drewN | apply keep_drew | apply keep_alloc | refine keep_far ?_ GW155.out _ | refine keep_far ?_ GW175.out _) | exact HK.out)) hk (.inl rfl)); replace HB := Aside0.mk (hb); replace HI0 := Aside0.mk (hi); (try clear hb); (try clear hb2); (try clear hk); (try clear hi); have hnb79 := NB175_155.out; have hnc79 := NB155_175.out; have hnb80 := NB175_0.out; have hnc80 := NB0_175.out; have hcz81_0 := zc0 BK175; have hcz81_1 := zc1 BK175; have hfz81_0 := blk_frozen BK175.out 0; have hfz81_1 := blk_frozen BK175.out 1; have p77 : 0 ≤ (0 : Int) := (by omega); have q77 : (0 : Int) < ((x176001_2.length : Int) : Int) := dT; have qi77 : (0 < x176001_2.length) = True := eq_true (by omega); obtain ⟨go77, co77, eo77, gb77, gl77, cl77, HG77⟩ := Kd.R_form HO_176001.out (by omega); (first | cases eo77 | (injection eo77 with ea_ en_ ec_; (first | subst ea_ | (injection ea_ with ea_; subst ea_)); subst ec_; clear en_)); have GB77 := Aside0.mk gb77; have GG77 := Aside0.mk HG77; clear gb77 gl77 HG77; obtain ⟨hx77_0, hf77_0⟩ := Kd.R_celln 0 HO_176001.out (0 : Int) p77 q77; (try rw [show ((0 : Int)).toNat = 0 from rfl] at hx77_0); (try simp only [Nat.reduceMul, Nat.zero_mul, Nat.zero_add, Nat.reduceAdd, Nat.add_zero] at hx77_0); (try rw [show ((0 : Int)).toNat = 0 from rfl] at hf77_0); (try simp only [Nat.reduceMul, Nat.zero_mul, Nat.zero_add, Nat.reduceAdd, Nat.add_zero] at hf77_0); replace p77 := eq_true p77; replace q77 := eq_true q77; obtain ⟨hy82_, hz82_⟩ := Kd.R_celln 0 HO_176001.out (0 : Int) (by omega) (dT); (try simp only [Int.reduceToNat, Int.toNat_zero, Int.toNat_ofNat, Nat.reduceMul, Nat.zero_mul, Nat.zero_add] at hy82_ hz82_); (try rw [show ((0 : Int)).toNat = 0 from rfl] at hy82_); (try rw [show ((0 : Int)).toNat = 0 from rfl] at hz82_); have HP82 := Kd.R_putg HO_176001.out (0 : Int) 0) | ((with_reducible refine gate_store (t := 3) (p := 102) rfl ?_); refine store_event (t := 3) (p := 102) (v := ?vo_w83) (w1 := (w78.setCell ⟨go77, (0 : Int).toNat, none⟩ (.int .i64 0))) ?hg ?ho ?hn ?hr ?_; (case ho => rfl); (case hg => rfl); (case hn => rfl); (case hr => first | (go_simp; done) | (go_simp; rfl)); intro w83 hw; have hg : w78.grownBy w83 (some go77) := (by rw [hw]; exact HP82.2); have hp_ : Kd.R (Kd.int .i64) 3 w83 w.heap.size (fun k_ => some k_ ≠ (u176000 : Value).ownBlock) (.slice (some ⟨go77, 0, none⟩) x176001_2.length co77) y187 := (by rw [hw, Ny187.out]; exact HP82.1); clear HP82; replace HO_176000 := Aside0.mk (Kd.Q_after (v := (.slice (some ⟨go77, 0, none⟩) x176001_2.length co77)) (v1 := (.slice (some ⟨go77, 0, none⟩) x176001_2.length co77)) (ok := (fun _ => True)) (qT (Kd.Q_mono HO_176000.out (fun _ hk => ⟨trivial, hk⟩))) hg (.inl rfl)); replace BK155 := Aside0.mk (blk_grown (g := gb155) (o := .cells #[.slice none 0 0, .slice none 0 0] 25 (0, 0)) (kP BK155) hg (Kd.R_ne HO_176001.out BK155.out (by decide))); replace BK175 := Aside0.mk (blk_grown (g := gb175) (o := .cells #[u176000, .slice (some ⟨go77, 0, none⟩) x176001_2.length co77] 25 (0, 0)) (kP BK175) hg (Kd.R_ne HO_176001.out BK175.out (by decide))); replace HI0 := Aside0.mk (IsS47.grown (by repeat (first | (with_reducible first | exact HI0.out | apply IsS47.alloc | apply IsS47.drewN | apply IsS47.drew | apply IsS47.set_1 | refine IsS47.far ?_ NB0_155.out _ | refine IsS47.far ?_ NB0_175.out _) | exact HI0.out)) hg (IsS47.own_ne HI0.out HO_176001.out (by decide))); replace HB := Aside0.mk ((by rw [hw]; exact below_set (HB.out) (Nat.le_trans HL.out GB77.out) : Below w0.heap.size w0 w83)); replace HK := Aside0.mk (KeepBut.trans (by repeat (first | (with_reducible first | exact HK.out | apply KeepBut.set_ | apply keep_drewN | apply keep_drew | apply keep_alloc | refine keep_far ?_ GW155.out _ | refine keep_far ?_ GW175.out _) | exact HK.out)) (KeepBut.of_grown hg g) (Kd.R_base2 HO_176001.out)); replace HO_176001 := Aside0.mk (hp_); clear hg hw hp_; have hcz84_0 := zc0 BK175; have hcz84_1 := zc1 BK175; have hfz84_0 := blk_frozen BK175.out 0; have hfz84_1 := blk_frozen BK175.out 1; obtain ⟨Ao85, co85, eo85, _⟩ := Kd.Q_slice HO_176000.out; subst eo85; have hnb86 := NB155_0.out; have hnc86 := NB0_155.out; have hcz87_0 := zc0 BK155; have hcz87_1 := zc1 BK155; have hfz87_0 := blk_frozen BK155.out 0; have hfz87_1 := blk_frozen BK155.out 1))
         refine bodyPost_ret (results_cell_row rfl _ _ gb155 25 #[.slice Ao85 x176000_2.length co85, .slice (some ⟨go77, 0, none⟩) x176001_2.length co77] (0, 0) _ rfl (by (with_reducible repeat (first | refine blk_drewN ?_ _ | refine blk_drew ?_ | refine blk_alloc ?_ _)); refine blk_put (cs := #[.slice Ao85 x176000_2.length co85, .slice none 0 0]) ?_ 1 _ rfl; (with_reducible repeat (first | refine blk_drewN ?_ _ | refine blk_drew ?_ | refine blk_alloc ?_ _)); refine blk_put (cs := #[.slice none 0 0, .slice none 0 0]) ?_ 0 _ rfl; (with_reducible repeat (first | refine blk_drewN ?_ _ | refine blk_drew ?_ | refine blk_alloc ?_ _)); exact BK155.out) Try.underlying25 rfl (by kernel_rfl)) rfl ?_
         exact ⟨_, _, by first | rfl | (simp [errW_none, errW_some] <;> rfl) | (simp only [← hji5]; first | rfl | (simp [errW_none, errW_some] <;> rfl)) | (simp [*, errW_none, errW_some] <;> rfl), qT (Kd.Q_mono (qF gb155 1 (qF gb155 0 (Kd.Q_types HO_176000.out BK155.out (by decide)) (.slice Ao85 x176000_2.length co85)) (.slice (some ⟨go77, 0, none⟩) x176001_2.length co77)) (fun _ hk => hk.1.2)), rT (Kd.R_mono (rF gb155 1 (rF gb155 0 (rY HO_176001 BK155) (.slice Ao85 x176000_2.length co85)) (.slice (some ⟨go77, 0, none⟩) x176001_2.length co77)) (fun _ hk => hk.1)), by repeat (first | (with_reducible first | exact HI0.out | apply IsS47.alloc | apply IsS47.drewN | apply IsS47.drew | apply IsS47.set_1 | refine IsS47.far ?_ NB0_155.out _ | refine IsS47.far ?_ NB0_175.out _) | exact HI0.out), by repeat (first | (with_reducible first | exact HB.out | apply below_alloc | apply pw_below_drewN | apply below_drew1 | refine below_set ?_ (IsS47.ge HI0.out) | refine below_set ?_ GE155.out | refine below_set ?_ GE175.out) | exact HB.out), by repeat (first | (with_reducible first | exact HK.out | apply KeepBut.set_ | apply keep_drewN | apply keep_drew | apply keep_alloc | refine keep_far ?_ GW155.out _ | refine keep_far ?_ GW175.out _) | exact HK.out)⟩
        rw [if_neg c75] at H
        have c75b0 : (t185 == 0) = false := beq_eq_false_iff_ne.mpr c75
        have c75b1 : (t185 != 0) = true := bne_iff_ne.mpr c75
        by_cases c88 : t185 = 1
        ·rw [if_pos c88] at H
         have c88b0 : (t185 == 1) = true := beq_iff_eq.mpr c88
         have c88b1 : (t185 != 1) = false := bne_eq_false_iff_eq.mpr c88
         clear c88
         by_cases c89 : 1 ≤ (x176000_2.length : Int)
         case neg =>
          rw [if_neg c89] at H
          exact absurd H (by simp)
         rw [if_pos c89] at H
         have c89b0 := eq_true c89
         have c89b1 : decide (1 ≤ (x176000_2.length : Int)) = true := decide_eq_true c89
         clear c89
         obtain ⟨y188, hy188⟩ : ∃ y_ : List Int, y_ = (x176000_2.drop (1 : Int).toNat) := ⟨_, rfl⟩
         replace H : (some (y188, x176001_2, t186)) = some (r1, r2, r3) := by first | (rw [hy188]; with_reducible exact H) | (have H2_ := (Option.bind_some _ _).symm.trans H; rw [hy188]; with_reducible exact H2_) | (have H2_ := (Option.bind_some _ _).symm.trans H; with_reducible exact H2_) | with_reducible exact H | (rw [hy188]; exact H) | exact H
         have Ny188 := Aside0.mk hy188
         clear hy188
         simp only [Option.some.injEq, Prod.mk.injEq] at H
         obtain ⟨rfl, rfl, rfl⟩ := H
         go_wp2_with (first | ((with_reducible refine gate_callee (f := 11) rfl ?_); refine gL (some 97) Try.func11 #[.pointer (some ⟨g, 0, none⟩), .int .i64 50] ?_; (with_reducible refine (spec_l6Rd_pick.calls kj38 g s0_0 t174 50 t185 t186 w0 _ ?side1 ?side2 A74.out).mono ?_); (case side1 => repeat (first | (with_reducible first | exact HI0.out | apply IsS47.alloc | apply IsS47.drewN | apply IsS47.drew | apply IsS47.set_1 | refine IsS47.far ?_ NB0_155.out _ | refine IsS47.far ?_ NB0_175.out _) | exact HI0.out)); (case side2 => repeat (first | (with_reducible first | exact HB.out | apply below_alloc | apply pw_below_drewN | apply below_drew1 | refine below_set ?_ (IsS47.ge HI0.out) | refine below_set ?_ GE155.out | refine below_set ?_ GE175.out) | exact HB.out)); rintro e w90 ⟨rfl, hi, hb, hk⟩; refine ⟨_, rfl, ?_⟩; replace HO_176000 := Aside0.mk (Kd.Q_mono (Kd.Q_keep (IsS47.apartQ (show IsS47 w0 _ g s0_0 t174 from by repeat (first | (with_reducible first | exact HI0.out | apply IsS47.alloc | apply IsS47.drewN | apply IsS47.drew | apply IsS47.set_1 | refine IsS47.far ?_ NB0_155.out _ | refine IsS47.far ?_ NB0_175.out _) | exact HI0.out)) (qP HO_176000) (by decide)) hk (fun _ h => h.2)) (fun _ h => h.1)); replace HO_176001 := Aside0.mk (Kd.R_mono (Kd.R_keep (IsS47.apart (show IsS47 w0 _ g s0_0 t174 from by repeat (first | (with_reducible first | exact HI0.out | apply IsS47.alloc | apply IsS47.drewN | apply IsS47.drew | apply IsS47.set_1 | refine IsS47.far ?_ NB0_155.out _ | refine IsS47.far ?_ NB0_175.out _) | exact HI0.out)) (rP HO_176001) (by decide)) hk (fun _ h => h.2)) (fun _ h => h.1)); replace BK155 := Aside0.mk (KeepBut.blk hk (g' := gb155) (o := .cells #[.slice none 0 0, .slice none 0 0] 25 (0, 0)) (kP BK155) NB155_0.out (by simp)); replace BK175 := Aside0.mk (KeepBut.blk hk (g' := gb175) (o := .cells #[u176000, u176001] 25 (0, 0)) (kP BK175) NB175_0.out (by simp)); replace HK := Aside0.mk (KeepBut.trans (by repeat (first | (with_reducible first | exact HK.out | apply KeepBut.set_ | apply keep_drewN | apply keep_drew | apply keep_alloc | refine keep_far ?_ GW155.out _ | refine keep_far ?_ GW175.out _) | exact HK.out)) hk (.inl rfl)); replace HB := Aside0.mk (hb); replace HI0 := Aside0.mk (hi); (try clear hb); (try clear hb2); (try clear hk); (try clear hi); have hnb91 := NB175_155.out; have hnc91 := NB155_175.out; have hnb92 := NB175_0.out; have hnc92 := NB0_175.out; have hcz93_0 := zc0 BK175; have hcz93_1 := zc1 BK175; have hfz93_0 := blk_frozen BK175.out 0; have hfz93_1 := blk_frozen BK175.out 1; obtain ⟨Ao94, co94, eo94, _⟩ := Kd.Q_slice HO_176000.out; subst eo94; have q95 : (1 : Int) ≤ ((x176000_2.length : Int) : Int) := dT; obtain ⟨i095, hi095, _, hsz95, _⟩ := info_parts info3; have hcut95 := cut_from (P := Try.prog) 23 3 .i64 Try.underlying23 hi095 1 hsz95 Ao94 x176000_2.length co94 1 (by omega) q95; have hr95 := Kd.Q_drop (k := (1 : Int).toNat) HO_176000.out (by omega); obtain ⟨A95, hA95⟩ : ∃ A1, A1 = (if co94 = (1 : Int).toNat then Ao94 else (Ao94 : Option Addr).map (·.add ((1 : Int).toNat * 1))) := ⟨_, rfl⟩; obtain ⟨c95, hc95⟩ : ∃ c1, c1 = co94 - (1 : Int).toNat := ⟨_, rfl⟩; have hy95 : y188.length = x176000_2.length - (1 : Int).toNat := (by rw [Ny188.out, List.length_drop]); rw [← Ny188.out] at hr95; rw [← hy95, ← hA95, ← hc95] at hcut95; replace hr95 : Kd.Q (Kd.int .i64) 3 w90 w.heap.size (fun k_ => some k_ ≠ (u176001 : Value).ownBlock) (.slice A95 y188.length c95) y188 := (by rw [hA95, hc95, hy95]; exact hr95); have HE95 : Aside0 ((Value.slice A95 y188.length c95).ownBlock = (.slice Ao94 x176000_2.length co94 : Value).ownBlock) := ⟨by rw [hA95]; split <;> (cases (Ao94 : Option Addr) <;> rfl)⟩; clear hy95 hi095 hsz95 HO_176000 hA95 hc95; have HO190 := Aside0.mk hr95; clear hr95; replace q95 := eq_true q95; have n_ := Aside0.mk (Kd.R_mono (ok' := fun k_ => some k_ ≠ (.slice A95 y188.length c95 : Value).ownBlock) HO_176001.out (fun k_ hk => (by rw [HE95.out]; exact hk))); clear HO_176001; have HO_176001 := n_; clear n_; have hnb96 := NB155_0.out; have hnc96 := NB0_155.out; have hcz97_0 := zc0 BK155; have hcz97_1 := zc1 BK155; have hfz97_0 := blk_frozen BK155.out 0; have hfz97_1 := blk_frozen BK155.out 1; obtain ⟨Ao98, co98, eo98⟩ := Kd.R_slice HO_176001.out; subst eo98))
         refine bodyPost_ret (results_cell_row rfl _ _ gb155 25 #[.slice A95 y188.length c95, .slice Ao98 x176001_2.length co98] (0, 0) _ rfl (by (with_reducible repeat (first | refine blk_drewN ?_ _ | refine blk_drew ?_ | refine blk_alloc ?_ _)); refine blk_put (cs := #[.slice A95 y188.length c95, .slice none 0 0]) ?_ 1 _ rfl; (with_reducible repeat (first | refine blk_drewN ?_ _ | refine blk_drew ?_ | refine blk_alloc ?_ _)); refine blk_put (cs := #[.slice none 0 0, .slice none 0 0]) ?_ 0 _ rfl; (with_reducible repeat (first | refine blk_drewN ?_ _ | refine blk_drew ?_ | refine blk_alloc ?_ _)); refine blk_far ?_ NB155_175.out _; (with_reducible repeat (first | refine blk_drewN ?_ _ | refine blk_drew ?_ | refine blk_alloc ?_ _)); exact BK155.out) Try.underlying25 rfl (by kernel_rfl)) rfl ?_
         exact ⟨_, _, by first | rfl | (simp [errW_none, errW_some] <;> rfl) | (simp only [← hji5]; first | rfl | (simp [errW_none, errW_some] <;> rfl)) | (simp [*, errW_none, errW_some] <;> rfl), qT (Kd.Q_mono (qF gb155 1 (qF gb155 0 (Kd.Q_far (p := ⟨gb175, 0, none⟩) (Kd.Q_types (Kd.Q_types HO190.out BK175.out (by decide)) BK155.out (by decide)) (fun _ hk => hk.1.2) (.slice A95 y188.length c95)) (.slice A95 y188.length c95)) (.slice Ao98 x176001_2.length co98)) (fun _ hk => hk.1.1)), rT (Kd.R_mono (rF gb155 1 (rF gb155 0 (Kd.R_far (p := ⟨gb175, 0, none⟩) (Kd.R_types (rY HO_176001 BK175) BK155.out (by decide)) (fun _ hk => hk.1.2) (.slice A95 y188.length c95)) (.slice A95 y188.length c95)) (.slice Ao98 x176001_2.length co98)) (fun _ hk => hk.1.1)), by repeat (first | (with_reducible first | exact HI0.out | apply IsS47.alloc | apply IsS47.drewN | apply IsS47.drew | apply IsS47.set_1 | refine IsS47.far ?_ NB0_155.out _ | refine IsS47.far ?_ NB0_175.out _) | exact HI0.out), by repeat (first | (with_reducible first | exact HB.out | apply below_alloc | apply pw_below_drewN | apply below_drew1 | refine below_set ?_ (IsS47.ge HI0.out) | refine below_set ?_ GE155.out | refine below_set ?_ GE175.out) | exact HB.out), by repeat (first | (with_reducible first | exact HK.out | apply KeepBut.set_ | apply keep_drewN | apply keep_drew | apply keep_alloc | refine keep_far ?_ GW155.out _ | refine keep_far ?_ GW175.out _) | exact HK.out)⟩
        rw [if_neg c88] at H
        have c88b0 : (t185 == 1) = false := beq_eq_false_iff_ne.mpr c88
        have c88b1 : (t185 != 1) = true := bne_iff_ne.mpr c88
        by_cases c99 : t185 = 2
        case neg =>
         rw [if_neg c99] at H
         have c99b0 : (t185 == 2) = false := beq_eq_false_iff_ne.mpr c99
         have c99b1 : (t185 != 2) = true := bne_iff_ne.mpr c99
         simp only [Option.some.injEq, Prod.mk.injEq] at H
         obtain ⟨rfl, rfl, rfl⟩ := H
         go_wp2_with (first | ((with_reducible refine gate_callee (f := 11) rfl ?_); refine gL (some 97) Try.func11 #[.pointer (some ⟨g, 0, none⟩), .int .i64 50] ?_; (with_reducible refine (spec_l6Rd_pick.calls kj38 g s0_0 t174 50 t185 t186 w0 _ ?side1 ?side2 A74.out).mono ?_); (case side1 => repeat (first | (with_reducible first | exact HI0.out | apply IsS47.alloc | apply IsS47.drewN | apply IsS47.drew | apply IsS47.set_1 | refine IsS47.far ?_ NB0_155.out _ | refine IsS47.far ?_ NB0_175.out _) | exact HI0.out)); (case side2 => repeat (first | (with_reducible first | exact HB.out | apply below_alloc | apply pw_below_drewN | apply below_drew1 | refine below_set ?_ (IsS47.ge HI0.out) | refine below_set ?_ GE155.out | refine below_set ?_ GE175.out) | exact HB.out)); rintro e w112 ⟨rfl, hi, hb, hk⟩; refine ⟨_, rfl, ?_⟩; replace HO_176000 := Aside0.mk (Kd.Q_mono (Kd.Q_keep (IsS47.apartQ (show IsS47 w0 _ g s0_0 t174 from by repeat (first | (with_reducible first | exact HI0.out | apply IsS47.alloc | apply IsS47.drewN | apply IsS47.drew | apply IsS47.set_1 | refine IsS47.far ?_ NB0_155.out _ | refine IsS47.far ?_ NB0_175.out _) | exact HI0.out)) (qP HO_176000) (by decide)) hk (fun _ h => h.2)) (fun _ h => h.1)); replace HO_176001 := Aside0.mk (Kd.R_mono (Kd.R_keep (IsS47.apart (show IsS47 w0 _ g s0_0 t174 from by repeat (first | (with_reducible first | exact HI0.out | apply IsS47.alloc | apply IsS47.drewN | apply IsS47.drew | apply IsS47.set_1 | refine IsS47.far ?_ NB0_155.out _ | refine IsS47.far ?_ NB0_175.out _) | exact HI0.out)) (rP HO_176001) (by decide)) hk (fun _ h => h.2)) (fun _ h => h.1)); replace BK155 := Aside0.mk (KeepBut.blk hk (g' := gb155) (o := .cells #[.slice none 0 0, .slice none 0 0] 25 (0, 0)) (kP BK155) NB155_0.out (by simp)); replace BK175 := Aside0.mk (KeepBut.blk hk (g' := gb175) (o := .cells #[u176000, u176001] 25 (0, 0)) (kP BK175) NB175_0.out (by simp)); replace HK := Aside0.mk (KeepBut.trans (by repeat (first | (with_reducible first | exact HK.out | apply KeepBut.set_ | apply keep_drewN | apply keep_drew | apply keep_alloc | refine keep_far ?_ GW155.out _ | refine keep_far ?_ GW175.out _) | exact HK.out)) hk (.inl rfl)); replace HB := Aside0.mk (hb); replace HI0 := Aside0.mk (hi); (try clear hb); (try clear hb2); (try clear hk); (try clear hi); have hnb113 := NB175_155.out; have hnc113 := NB155_175.out; have hnb114 := NB175_0.out; have hnc114 := NB0_175.out; have hcz115_0 := zc0 BK175; have hcz115_1 := zc1 BK175; have hfz115_0 := blk_frozen BK175.out 0; have hfz115_1 := blk_frozen BK175.out 1; obtain ⟨Ao116, co116, eo116, _⟩ := Kd.Q_slice HO_176000.out; subst eo116; have hnb117 := NB155_0.out; have hnc117 := NB0_155.out; have hcz118_0 := zc0 BK155; have hcz118_1 := zc1 BK155; have hfz118_0 := blk_frozen BK155.out 0; have hfz118_1 := blk_frozen BK155.out 1; obtain ⟨Ao119, co119, eo119⟩ := Kd.R_slice HO_176001.out; subst eo119))
         refine bodyPost_ret (results_cell_row rfl _ _ gb155 25 #[.slice Ao116 x176000_2.length co116, .slice Ao119 x176001_2.length co119] (0, 0) _ rfl (by (with_reducible repeat (first | refine blk_drewN ?_ _ | refine blk_drew ?_ | refine blk_alloc ?_ _)); refine blk_put (cs := #[.slice Ao116 x176000_2.length co116, .slice none 0 0]) ?_ 1 _ rfl; (with_reducible repeat (first | refine blk_drewN ?_ _ | refine blk_drew ?_ | refine blk_alloc ?_ _)); refine blk_put (cs := #[.slice none 0 0, .slice none 0 0]) ?_ 0 _ rfl; (with_reducible repeat (first | refine blk_drewN ?_ _ | refine blk_drew ?_ | refine blk_alloc ?_ _)); exact BK155.out) Try.underlying25 rfl (by kernel_rfl)) rfl ?_
         exact ⟨_, _, by first | rfl | (simp [errW_none, errW_some] <;> rfl) | (simp only [← hji5]; first | rfl | (simp [errW_none, errW_some] <;> rfl)) | (simp [*, errW_none, errW_some] <;> rfl), qT (Kd.Q_mono (qF gb155 1 (qF gb155 0 (Kd.Q_types HO_176000.out BK155.out (by decide)) (.slice Ao116 x176000_2.length co116)) (.slice Ao119 x176001_2.length co119)) (fun _ hk => hk.1)), rT (Kd.R_mono (rF gb155 1 (rF gb155 0 (rY HO_176001 BK155) (.slice Ao116 x176000_2.length co116)) (.slice Ao119 x176001_2.length co119)) (fun _ hk => hk.1)), by repeat (first | (with_reducible first | exact HI0.out | apply IsS47.alloc | apply IsS47.drewN | apply IsS47.drew | apply IsS47.set_1 | refine IsS47.far ?_ NB0_155.out _ | refine IsS47.far ?_ NB0_175.out _) | exact HI0.out), by repeat (first | (with_reducible first | exact HB.out | apply below_alloc | apply pw_below_drewN | apply below_drew1 | refine below_set ?_ (IsS47.ge HI0.out) | refine below_set ?_ GE155.out | refine below_set ?_ GE175.out) | exact HB.out), by repeat (first | (with_reducible first | exact HK.out | apply KeepBut.set_ | apply keep_drewN | apply keep_drew | apply keep_alloc | refine keep_far ?_ GW155.out _ | refine keep_far ?_ GW175.out _) | exact HK.out)⟩
        rw [if_pos c99] at H
        have c99b0 : (t185 == 2) = true := beq_iff_eq.mpr c99
        have c99b1 : (t185 != 2) = false := bne_eq_false_iff_eq.mpr c99
        clear c99
        by_cases c100 : 0 < (x176000_2.length : Int)
        case neg =>
         rw [if_neg c100] at H
         exact absurd H (by simp)
        rw [if_pos c100] at H
        have c100b0 : decide (0 < (x176000_2.length : Int)) = true := decide_eq_true c100
        have c100b1 : decide (0 < x176000_2.length) = true := decide_eq_true (by omega)
        clear c100
        obtain ⟨y191, hy191⟩ : ∃ y_ : List Int, y_ = (x176000_2.set (0 : Int).toNat ji5) := ⟨_, rfl⟩
        replace H : (some (y191, x176001_2, t186)) = some (r1, r2, r3) := by first | (rw [hy191]; with_reducible exact H) | (have H2_ := (Option.bind_some _ _).symm.trans H; rw [hy191]; with_reducible exact H2_) | (have H2_ := (Option.bind_some _ _).symm.trans H; with_reducible exact H2_) | with_reducible exact H | (rw [hy191]; exact H) | exact H
        have Ny191 := Aside0.mk hy191
        clear hy191
        simp only [Option.some.injEq, Prod.mk.injEq] at H
        obtain ⟨rfl, rfl, rfl⟩ := H
        go_wp2_with (first | ((with_reducible refine gate_callee (f := 11) rfl ?_); refine gL (some 97) Try.func11 #[.pointer (some ⟨g, 0, none⟩), .int .i64 50] ?_; (with_reducible refine (spec_l6Rd_pick.calls kj38 g s0_0 t174 50 t185 t186 w0 _ ?side1 ?side2 A74.out).mono ?_); (case side1 => repeat (first | (with_reducible first | exact HI0.out | apply IsS47.alloc | apply IsS47.drewN | apply IsS47.drew | apply IsS47.set_1 | refine IsS47.far ?_ NB0_155.out _ | refine IsS47.far ?_ NB0_175.out _) | exact HI0.out)); (case side2 => repeat (first | (with_reducible first | exact HB.out | apply below_alloc | apply pw_below_drewN | apply below_drew1 | refine below_set ?_ (IsS47.ge HI0.out) | refine below_set ?_ GE155.out | refine below_set ?_ GE175.out) | exact HB.out)); rintro e w102 ⟨rfl, hi, hb, hk⟩; refine ⟨_, rfl, ?_⟩; replace HO_176000 := Aside0.mk (Kd.Q_mono (Kd.Q_keep (IsS47.apartQ (show IsS47 w0 _ g s0_0 t174 from by repeat (first | (with_reducible first | exact HI0.out | apply IsS47.alloc | apply IsS47.drewN | apply IsS47.drew | apply IsS47.set_1 | refine IsS47.far ?_ NB0_155.out _ | refine IsS47.far ?_ NB0_175.out _) | exact HI0.out)) (qP HO_176000) (by decide)) hk (fun _ h => h.2)) (fun _ h => h.1)); replace HO_176001 := Aside0.mk (Kd.R_mono (Kd.R_keep (IsS47.apart (show IsS47 w0 _ g s0_0 t174 from by repeat (first | (with_reducible first | exact HI0.out | apply IsS47.alloc | apply IsS47.drewN | apply IsS47.drew | apply IsS47.set_1 | refine IsS47.far ?_ NB0_155.out _ | refine IsS47.far ?_ NB0_175.out _) | exact HI0.out)) (rP HO_176001) (by decide)) hk (fun _ h => h.2)) (fun _ h => h.1)); replace BK155 := Aside0.mk (KeepBut.blk hk (g' := gb155) (o := .cells #[.slice none 0 0, .slice none 0 0] 25 (0, 0)) (kP BK155) NB155_0.out (by simp)); replace BK175 := Aside0.mk (KeepBut.blk hk (g' := gb175) (o := .cells #[u176000, u176001] 25 (0, 0)) (kP BK175) NB175_0.out (by simp)); replace HK := Aside0.mk (KeepBut.trans (by repeat (first | (with_reducible first | exact HK.out | apply KeepBut.set_ | apply keep_drewN | apply keep_drew | apply keep_alloc | refine keep_far ?_ GW155.out _ | refine keep_far ?_ GW175.out _) | exact HK.out)) hk (.inl rfl)); replace HB := Aside0.mk (hb); replace HI0 := Aside0.mk (hi); (try clear hb); (try clear hb2); (try clear hk); (try clear hi); have hnb103 := NB175_155.out; have hnc103 := NB155_175.out; have hnb104 := NB175_0.out; have hnc104 := NB0_175.out; have hcz105_0 := zc0 BK175; have hcz105_1 := zc1 BK175; have hfz105_0 := blk_frozen BK175.out 0; have hfz105_1 := blk_frozen BK175.out 1; have p101 : 0 ≤ (0 : Int) := (by omega); have q101 : (0 : Int) < ((x176000_2.length : Int) : Int) := dT; have qi101 : (0 < x176000_2.length) = True := eq_true (by omega); obtain ⟨go101, oo101, co101, eo101, gb101, gl101, cl101, HG101⟩ := Kd.Q_form HO_176000.out (by omega); (first | cases eo101 | (injection eo101 with ea_ en_ ec_; (first | subst ea_ | (injection ea_ with ea_; subst ea_)); subst ec_; clear en_)); have GB101 := Aside0.mk gb101; have GG101 := Aside0.mk HG101; clear gb101 gl101 HG101; obtain ⟨hx101_0, hf101_0⟩ := Kd.Q_cell 0 HO_176000.out (0 : Int) p101 q101; (try rw [show ((0 : Int)).toNat = 0 from rfl] at hx101_0); (try simp only [Nat.reduceMul, Nat.zero_mul, Nat.zero_add, Nat.reduceAdd, Nat.add_zero] at hx101_0); (try rw [show ((0 : Int)).toNat = 0 from rfl] at hf101_0); (try simp only [Nat.reduceMul, Nat.zero_mul, Nat.zero_add, Nat.reduceAdd, Nat.add_zero] at hf101_0); replace p101 := eq_true p101; replace q101 := eq_true q101; obtain ⟨hy106_, hz106_⟩ := Kd.Q_cell 0 HO_176000.out (0 : Int) (by omega) (dT); (try simp only [Int.reduceToNat, Int.toNat_zero, Int.toNat_ofNat, Nat.reduceMul, Nat.zero_mul, Nat.zero_add] at hy106_ hz106_); (try rw [show ((0 : Int)).toNat = 0 from rfl] at hy106_); (try rw [show ((0 : Int)).toNat = 0 from rfl] at hz106_); have HP106 := Kd.Q_putg HO_176000.out (0 : Int) (by omega) (by have h_ : (0 : Int) < ((x176000_2.length : Int) : Int) := dT; first | exact h_ | (have e_ := (Kd.Q_reads' HO_176000.out).1; omega) | simpa using h_) ji5) | ((with_reducible refine gate_store (t := 3) (p := 114) rfl ?_); refine store_event (t := 3) (p := 114) (v := ?vo_w107) (w1 := (w102.setCell ⟨go101, oo101, none⟩ (.int .i64 ji5))) ?hg ?ho ?hn ?hr ?_; (case ho => rfl); (case hg => rfl); (case hn => rfl); (case hr => first | (go_simp; done) | (go_simp; rfl)); intro w107 hw; have hg : w102.grownBy w107 (some go101) := (by rw [hw]; exact HP106.2); have hp_ : Kd.Q (Kd.int .i64) 3 w107 w.heap.size (fun k_ => some k_ ≠ (u176001 : Value).ownBlock) (.slice (some ⟨go101, oo101, none⟩) x176000_2.length co101) y191 := (by rw [hw, Ny191.out]; exact HP106.1); clear HP106; replace HO_176001 := Aside0.mk (Kd.R_after (v := (.slice (some ⟨go101, oo101, none⟩) x176000_2.length co101)) (v1 := (.slice (some ⟨go101, oo101, none⟩) x176000_2.length co101)) (ok := (fun _ => True)) (rT (Kd.R_mono HO_176001.out (fun _ hk => ⟨trivial, hk⟩))) hg (.inl rfl)); replace BK155 := Aside0.mk (blk_grown (g := gb155) (o := .cells #[.slice none 0 0, .slice none 0 0] 25 (0, 0)) (kP BK155) hg (Kd.Q_ne HO_176000.out BK155.out (by decide))); replace BK175 := Aside0.mk (blk_grown (g := gb175) (o := .cells #[.slice (some ⟨go101, oo101, none⟩) x176000_2.length co101, u176001] 25 (0, 0)) (kP BK175) hg (Kd.Q_ne HO_176000.out BK175.out (by decide))); replace HI0 := Aside0.mk (IsS47.grown (by repeat (first | (with_reducible first | exact HI0.out | apply IsS47.alloc | apply IsS47.drewN | apply IsS47.drew | apply IsS47.set_1 | refine IsS47.far ?_ NB0_155.out _ | refine IsS47.far ?_ NB0_175.out _) | exact HI0.out)) hg (IsS47.own_neQ HI0.out HO_176000.out (by decide))); replace HB := Aside0.mk ((by rw [hw]; exact below_set (HB.out) (Nat.le_trans HL.out GB101.out) : Below w0.heap.size w0 w107)); replace HK := Aside0.mk (KeepBut.trans (by repeat (first | (with_reducible first | exact HK.out | apply KeepBut.set_ | apply keep_drewN | apply keep_drew | apply keep_alloc | refine keep_far ?_ GW155.out _ | refine keep_far ?_ GW175.out _) | exact HK.out)) (KeepBut.of_grown hg g) (Kd.Q_base2 HO_176000.out)); replace HO_176000 := Aside0.mk (hp_); clear hg hw hp_; have hcz108_0 := zc0 BK175; have hcz108_1 := zc1 BK175; have hfz108_0 := blk_frozen BK175.out 0; have hfz108_1 := blk_frozen BK175.out 1; have hnb109 := NB155_0.out; have hnc109 := NB0_155.out; have hcz110_0 := zc0 BK155; have hcz110_1 := zc1 BK155; have hfz110_0 := blk_frozen BK155.out 0; have hfz110_1 := blk_frozen BK155.out 1; obtain ⟨Ao111, co111, eo111⟩ := Kd.R_slice HO_176001.out; subst eo111))
        refine bodyPost_ret (results_cell_row rfl _ _ gb155 25 #[.slice (some ⟨go101, oo101, none⟩) x176000_2.length co101, .slice Ao111 x176001_2.length co111] (0, 0) _ rfl (by (with_reducible repeat (first | refine blk_drewN ?_ _ | refine blk_drew ?_ | refine blk_alloc ?_ _)); refine blk_put (cs := #[.slice (some ⟨go101, oo101, none⟩) x176000_2.length co101, .slice none 0 0]) ?_ 1 _ rfl; (with_reducible repeat (first | refine blk_drewN ?_ _ | refine blk_drew ?_ | refine blk_alloc ?_ _)); refine blk_put (cs := #[.slice none 0 0, .slice none 0 0]) ?_ 0 _ rfl; (with_reducible repeat (first | refine blk_drewN ?_ _ | refine blk_drew ?_ | refine blk_alloc ?_ _)); exact BK155.out) Try.underlying25 rfl (by kernel_rfl)) rfl ?_
        exact ⟨_, _, by first | rfl | (simp [errW_none, errW_some] <;> rfl) | (simp only [← hji5]; first | rfl | (simp [errW_none, errW_some] <;> rfl)) | (simp [*, errW_none, errW_some] <;> rfl), qT (Kd.Q_mono (qF gb155 1 (qF gb155 0 (Kd.Q_types HO_176000.out BK155.out (by decide)) (.slice (some ⟨go101, oo101, none⟩) x176000_2.length co101)) (.slice Ao111 x176001_2.length co111)) (fun _ hk => hk.1)), rT (Kd.R_mono (rF gb155 1 (rF gb155 0 (rY HO_176001 BK155) (.slice (some ⟨go101, oo101, none⟩) x176000_2.length co101)) (.slice Ao111 x176001_2.length co111)) (fun _ hk => hk.1.2)), by repeat (first | (with_reducible first | exact HI0.out | apply IsS47.alloc | apply IsS47.drewN | apply IsS47.drew | apply IsS47.set_1 | refine IsS47.far ?_ NB0_155.out _ | refine IsS47.far ?_ NB0_175.out _) | exact HI0.out), by repeat (first | (with_reducible first | exact HB.out | apply below_alloc | apply pw_below_drewN | apply below_drew1 | refine below_set ?_ (IsS47.ge HI0.out) | refine below_set ?_ GE155.out | refine below_set ?_ GE175.out) | exact HB.out), by repeat (first | (with_reducible first | exact HK.out | apply KeepBut.set_ | apply keep_drewN | apply keep_drew | apply keep_alloc | refine keep_far ?_ GW155.out _ | refine keep_far ?_ GW175.out _) | exact HK.out)⟩
       subst c48
       rw [if_pos rfl] at H
       obtain ⟨t177, A490, H⟩ := Option.bind_eq_some_iff.mp H
       have A49 := Aside0.mk A490
       clear A490
       have H' := Aside0.mk H
       clear H
       have hnb50 := NB175_155.out
       have hnc50 := NB155_175.out
       have hnb51 := NB175_0.out
       have hnc51 := NB0_175.out
       have hcz52_0 := zc0 BK175
       have hcz52_1 := zc1 BK175
       have hfz52_0 := blk_frozen BK175.out 0
       have hfz52_1 := blk_frozen BK175.out 1
       obtain ⟨Ao53, co53, eo53, _⟩ := Kd.Q_slice HO_176000.out
       subst eo53
       obtain ⟨Ao54, co54, eo54⟩ := Kd.R_slice HO_176001.out
       subst eo54
       go_wp2_with (first | ((with_reducible refine gate_callee (f := 24) rfl ?_); refine gL (some 71) Try.func24 #[.slice Ao53 x176000_2.length co53, .slice Ao54 x176001_2.length co54] ?_; (with_reducible refine (spec_l1Orbits.calls kj38 _ _ x176000_2 _ _ x176001_2 t177 _ ?side1 ?side2 ?side3 ?side4 A49.out).mono ?_); (case side1 => exact cP (Kd.Q_reads' HO_176000.out).2.2); (case side2 => exact (Kd.Q_reads' HO_176000.out).2.1); (case side3 => exact cP (Kd.R_reads' HO_176001.out).2.2); (case side4 => exact (Kd.R_reads' HO_176001.out).2.1); rintro e w55 ⟨v178, rfl, ho0, hb⟩; refine ⟨_, rfl, ?_⟩; have HO179 := Aside0.mk (Kd.R_lower (Kd.R_new' (Kd.R_new' ho0 (Kd.Q_lt (qP HO_176000))) (Kd.R_lt (rP HO_176001))) (keep_size (w := w) (g := g) (row := none) (by repeat (first | (with_reducible first | exact HK.out | apply KeepBut.set_ | apply keep_drewN | apply keep_drew | apply keep_alloc | refine keep_far ?_ GW155.out _ | refine keep_far ?_ GW175.out _) | exact HK.out)))); replace HO_176000 := Aside0.mk (Kd.Q_elder' (qP HO_176000) (Kd.R_base ho0) hb); replace HO_176001 := Aside0.mk (Kd.R_elder' (rP HO_176001) (Kd.R_base ho0) hb); replace BK155 := kB BK155 hb; replace BK175 := kB BK175 hb; replace HK := Aside0.mk (KeepBut.trans (by repeat (first | (with_reducible first | exact HK.out | apply KeepBut.set_ | apply keep_drewN | apply keep_drew | apply keep_alloc | refine keep_far ?_ GW155.out _ | refine keep_far ?_ GW175.out _) | exact HK.out)) (KeepBut.of_below hb g none) (.inl rfl)); replace HB := Aside0.mk (below_step (by repeat (first | (with_reducible first | exact HB.out | apply below_alloc | apply pw_below_drewN | apply below_drew1 | refine below_set ?_ (IsS47.ge HI0.out) | refine below_set ?_ GE155.out | refine below_set ?_ GE175.out) | exact HB.out)) hb); replace HI0 := Aside0.mk (IsS47.below (by repeat (first | (with_reducible first | exact HI0.out | apply IsS47.alloc | apply IsS47.drewN | apply IsS47.drew | apply IsS47.set_1 | refine IsS47.far ?_ NB0_155.out _ | refine IsS47.far ?_ NB0_175.out _) | exact HI0.out)) hb); (try clear hb); (try clear hb2); (try clear hk); (try clear hi); (try clear ho0)))
       go_loopg [12] kj38 (fun kq v12 w' => ∃ (x12_4 : Int), v12 = .int .i64 x12_4 ∧ Aside0 (spec_l91Map.l2 kq ji5 x10_2 t177 x12_4 s0_0 t174 x176000_2 x176001_2 = some (r1, r2, r3)) ∧ Aside0 (kq ≤ kj38) ∧ Aside0 (Kd.R (Kd.int .i64) 3 w' w.heap.size (fun k_ => some k_ ≠ ((.slice Ao53 x176000_2.length co53) : Value).ownBlock ∧ some k_ ≠ ((.slice Ao54 x176001_2.length co54) : Value).ownBlock) v178 t177) ∧ Aside0 (Kd.Q (Kd.int .i64) 3 w' w.heap.size (fun k_ => some k_ ≠ (v178 : Value).ownBlock ∧ some k_ ≠ ((.slice Ao54 x176001_2.length co54) : Value).ownBlock) (.slice Ao53 x176000_2.length co53) x176000_2) ∧ Aside0 (Kd.R (Kd.int .i64) 3 w' w.heap.size (fun k_ => some k_ ≠ (v178 : Value).ownBlock ∧ some k_ ≠ ((.slice Ao53 x176000_2.length co53) : Value).ownBlock) (.slice Ao54 x176001_2.length co54) x176001_2) ∧ Aside0 (w'.heap[gb155]? = some (.cells #[(.slice none 0 0), (.slice none 0 0)] 25 (0, 0))) ∧ Aside0 (w'.heap[gb175]? = some (.cells #[(.slice Ao53 x176000_2.length co53), (.slice Ao54 x176001_2.length co54)] 25 (0, 0))) ∧ Aside0 (IsS47 w0 w' g s0_0 t174) ∧ Aside0 (KeepBut w w' g none) ∧ Aside0 (Below w0.heap.size w0 w'))
       case atStart => exact ⟨(0), eS, H', ⟨Nat.le_refl _⟩, ⟨rT (Kd.R_mono HO179.out (fun _ hk => ⟨hk.1.2, hk.2⟩))⟩, ⟨qT (Kd.Q_mono HO_176000.out (fun _ hk => ⟨hk.2, hk.1⟩))⟩, ⟨rT (Kd.R_mono HO_176001.out (fun _ hk => ⟨hk.2, hk.1⟩))⟩, ⟨kP BK155⟩, ⟨kP BK175⟩, ⟨by repeat (first | (with_reducible first | exact HI0.out | apply IsS47.alloc | apply IsS47.drewN | apply IsS47.drew | apply IsS47.set_1 | refine IsS47.far ?_ NB0_155.out _ | refine IsS47.far ?_ NB0_175.out _) | exact HI0.out)⟩, ⟨by repeat (first | (with_reducible first | exact HK.out | apply KeepBut.set_ | apply keep_drewN | apply keep_drew | apply keep_alloc | refine keep_far ?_ GW155.out _ | refine keep_far ?_ GW175.out _) | exact HK.out)⟩, ⟨by repeat (first | (with_reducible first | exact HB.out | apply below_alloc | apply pw_below_drewN | apply below_drew1 | refine below_set ?_ (IsS47.ge HI0.out) | refine below_set ?_ GE155.out | refine below_set ?_ GE175.out) | exact HB.out)⟩⟩
       case round =>
        clear H'
        try clear c1
        try clear p1
        try clear q1
        try clear hx1
        try clear c2
        try clear p2
        try clear q2
        try clear hx2
        try clear hf2
        try clear c3
        try clear c4
        try clear c5
        try clear c6
        try clear c6b0
        try clear c6b1
        try clear p6
        try clear c7
        try clear c7b0
        try clear c7b1
        try clear c11
        try clear c12
        try clear c13
        try clear c13b0
        try clear c14
        try clear c14b0
        try clear c15
        try clear c15b0
        try clear p16
        try clear q16
        try clear hx16
        try clear c17
        try clear c17b0
        try clear c18
        try clear c18b0
        try clear c19
        try clear c19b0
        try clear c20
        try clear c20b0
        try clear p21
        try clear q21
        try clear hx21
        try clear hf21
        try clear c22
        try clear c22b0
        try clear c23
        try clear c23b0
        try clear c24
        try clear p24
        try clear q24
        try clear hx24
        try clear hf24
        try clear c36
        try clear c37
        try clear c40
        try clear c40b0
        try clear c42
        try clear c43
        try clear c48
        try clear c50
        try clear c51
        try clear hcz38_0
        try clear hcz38_1
        try clear hcz44_0
        try clear hcz44_1
        try clear hcz52_0
        try clear hcz52_1
        try clear hfz38_0
        try clear hfz38_1
        try clear hfz44_0
        try clear hfz44_1
        try clear hfz52_0
        try clear hfz52_1
        try clear hx165_0
        try clear hx166_0
        try clear hx168_0
        try clear hx169_0
        try clear hx21_0
        try clear hx24_0
        try clear p1
        try clear p16
        try clear p165
        try clear p166
        try clear p168
        try clear p169
        try clear p2
        try clear p21
        try clear p24
        try clear p6
        try clear q1
        try clear q16
        try clear q165
        try clear q166
        try clear q168
        try clear q169
        try clear q2
        try clear q21
        try clear q24
        obtain ⟨x12_4, rfl, HA, HK4, HO_11, HO_176000, HO_176001, BK155, BK175, HI0, HK, HB⟩ := hrel
        cases gk with
        | zero => exact absurd HA.out (by simp [spec_l91Map.l2])
        | succ k4 =>
         have H := HA.out
         clear HA
         simp only [spec_l91Map.l2] at H
         by_cases c56 : 0 ≤ x12_4
         case neg =>
          rw [if_neg c56] at H
          exact absurd H (by simp)
         rw [if_pos c56] at H
         have c56b0 : decide (0 ≤ x12_4) = true := decide_eq_true c56
         clear c56
         by_cases c57 : x12_4 < (t177.length : Int)
         case neg =>
          rw [if_neg c57] at H
          exact absurd H (by simp)
         rw [if_pos c57] at H
         have c57b0 : decide (x12_4 < (t177.length : Int)) = true := decide_eq_true c57
         clear c57
         by_cases c58 : (rd t177 x12_4) = 0
         ·rw [if_pos c58] at H
          have c58b0 : ((rd t177 x12_4) == 0) = true := beq_iff_eq.mpr c58
          have c58b1 : ((rd t177 x12_4) != 0) = false := bne_eq_false_iff_eq.mpr c58
          clear c58
          have H' := Aside0.mk H
          clear H
          obtain ⟨Ao59, co59, eo59⟩ := Kd.R_slice HO_11.out
          subst eo59
          have p180 : 0 ≤ (x12_4 : Int) := dT
          have q180 : x12_4 < (t177.length : Int) := dT
          obtain ⟨ad180, e180, hx180_0⟩ := Kd.at_int (Kd.R_reads' HO_11.out).2.2 x12_4 p180 q180
          cases e180
          replace p180 := eq_true p180
          replace q180 := eq_true q180
          go_wp2
          go_roundg k4
          case measure => have := HK1.out; have := HK2.out; have := HJ38.out; have := HK4.out; omega
          case rel => exact ⟨(wrap64 (x12_4 + 1)), eS, H', ⟨by have := HK1.out; have := HK2.out; have := HJ38.out; have := HK4.out; omega⟩, ⟨rP HO_11⟩, ⟨qP HO_176000⟩, ⟨rP HO_176001⟩, ⟨kP BK155⟩, ⟨kP BK175⟩, ⟨by repeat (first | (with_reducible first | exact HI0.out | apply IsS47.alloc | apply IsS47.drewN | apply IsS47.drew | apply IsS47.set_1 | refine IsS47.far ?_ NB0_155.out _ | refine IsS47.far ?_ NB0_175.out _) | exact HI0.out)⟩, ⟨by repeat (first | (with_reducible first | exact HK.out | apply KeepBut.set_ | apply keep_drewN | apply keep_drew | apply keep_alloc | refine keep_far ?_ GW155.out _ | refine keep_far ?_ GW175.out _) | exact HK.out)⟩, ⟨by repeat (first | (with_reducible first | exact HB.out | apply below_alloc | apply pw_below_drewN | apply below_drew1 | refine below_set ?_ (IsS47.ge HI0.out) | refine below_set ?_ GE155.out | refine below_set ?_ GE175.out) | exact HB.out)⟩⟩
         rw [if_neg c58] at H
         have c58b0 : ((rd t177 x12_4) == 0) = false := beq_eq_false_iff_ne.mpr c58
         have c58b1 : ((rd t177 x12_4) != 0) = true := bne_iff_ne.mpr c58
         by_cases c60 : 0 < (x176000_2.length : Int)
         case neg =>
          rw [if_neg c60] at H
          exact absurd H (by simp)
         rw [if_pos c60] at H
         have c60b0 : decide (0 < (x176000_2.length : Int)) = true := decide_eq_true c60
         have c60b1 : decide (0 < x176000_2.length) = true := decide_eq_true (by omega)
         clear c60
         by_cases c61 : x12_4 < (x176000_2.length : Int)
         case neg =>
          rw [if_neg c61] at H
          exact absurd H (by simp)
         rw [if_pos c61] at H
         have c61b0 : decide (x12_4 < (x176000_2.length : Int)) = true := decide_eq_true c61
         clear c61
         obtain ⟨y183, hy183⟩ : ∃ y_ : List Int, y_ = (x176000_2.set (0 : Int).toNat (rd x176000_2 x12_4)) := ⟨_, rfl⟩
         replace H : (spec_l91Map.l1 k4 ji5 (wrap64 (x10_2 + 1)) s0_0 t174 (y183.set (x12_4 : Int).toNat (rd x176000_2 0)) x176001_2) = some (r1, r2, r3) := by first | (rw [hy183]; with_reducible exact H) | (have H2_ := (Option.bind_some _ _).symm.trans H; rw [hy183]; with_reducible exact H2_) | (have H2_ := (Option.bind_some _ _).symm.trans H; with_reducible exact H2_) | with_reducible exact H | (rw [hy183]; exact H) | exact H
         have Ny183 := Aside0.mk hy183
         clear hy183
         obtain ⟨y184, hy184⟩ : ∃ y_ : List Int, y_ = (y183.set (x12_4 : Int).toNat (rd x176000_2 0)) := ⟨_, rfl⟩
         replace H : (spec_l91Map.l1 k4 ji5 (wrap64 (x10_2 + 1)) s0_0 t174 y184 x176001_2) = some (r1, r2, r3) := by first | (rw [hy184]; with_reducible exact H) | (have H2_ := (Option.bind_some _ _).symm.trans H; rw [hy184]; with_reducible exact H2_) | (have H2_ := (Option.bind_some _ _).symm.trans H; with_reducible exact H2_) | with_reducible exact H | (rw [hy184]; exact H) | exact H
         have Ny184 := Aside0.mk hy184
         clear hy184
         have H' := Aside0.mk H
         clear H
         obtain ⟨Ao64, co64, eo64⟩ := Kd.R_slice HO_11.out
         subst eo64
         have p180 : 0 ≤ (x12_4 : Int) := dT
         have q180 : x12_4 < (t177.length : Int) := dT
         obtain ⟨ad180, e180, hx180_0⟩ := Kd.at_int (Kd.R_reads' HO_11.out).2.2 x12_4 p180 q180
         cases e180
         replace p180 := eq_true p180
         replace q180 := eq_true q180
         have hnb65 := NB175_155.out
         have hnc65 := NB155_175.out
         have hnb66 := NB175_0.out
         have hnc66 := NB0_175.out
         have hcz67_0 := zc0 BK175
         have hcz67_1 := zc1 BK175
         have hfz67_0 := blk_frozen BK175.out 0
         have hfz67_1 := blk_frozen BK175.out 1
         have p181 : 0 ≤ (0 : Int) := (by omega)
         have q181 : 0 < (x176000_2.length : Int) := dT
         obtain ⟨ad181, e181, hx181_0⟩ := Kd.at_int (Kd.Q_reads' HO_176000.out).2.2 0 p181 q181
         cases e181
         have qi181 : (0 < x176000_2.length) = True := eq_true (by omega)
         (try rw [show ((0 : Int)).toNat = 0 from rfl] at hx181_0)
         (try rw [Addr.add_zero'] at hx181_0)
         replace p181 := eq_true p181
         replace q181 := eq_true q181
         try go_wp2
         replace HO_11 := Aside0.mk (Kd.R_drew HO_11.out)
         replace HO_176000 := Aside0.mk (Kd.Q_drew HO_176000.out)
         replace HO_176001 := Aside0.mk (Kd.R_drew HO_176001.out)
         replace BK155 := Aside0.mk (blk_drew BK155.out)
         replace BK175 := Aside0.mk (blk_drew BK175.out)
         replace HI0 := Aside0.mk (IsS47.drew HI0.out)
         replace HK := Aside0.mk (keep_drew HK.out)
         replace HB := Aside0.mk (below_drew1 HB.out)
         have p182 : 0 ≤ (x12_4 : Int) := dT
         have q182 : x12_4 < (x176000_2.length : Int) := dT
         obtain ⟨ad182, e182, hx182_0⟩ := Kd.at_int (Kd.Q_reads' HO_176000.out).2.2 x12_4 p182 q182
         obtain rfl : ad181 = ad182 := (by injection e182)
         replace p182 := eq_true p182
         replace q182 := eq_true q182
         have p62 : 0 ≤ (0 : Int) := (by omega)
         have q62 : (0 : Int) < ((x176000_2.length : Int) : Int) := dT
         have qi62 : (0 < x176000_2.length) = True := eq_true (by omega)
         obtain ⟨go62, oo62, co62, eo62, gb62, gl62, cl62, HG62⟩ := Kd.Q_form HO_176000.out (by omega)
         (first | cases eo62 | (injection eo62 with ea_ en_ ec_; (first | subst ea_ | (injection ea_ with ea_; subst ea_)); subst ec_; clear en_))
         have GB62 := Aside0.mk gb62
         have GG62 := Aside0.mk HG62
         clear gb62 gl62 HG62
         (first | simp only [add_at] at hx181_0 | skip)
         (first | simp only [add_at] at hx182_0 | skip)
         obtain ⟨hx62_0, hf62_0⟩ := Kd.Q_cell 0 HO_176000.out (0 : Int) p62 q62
         (try rw [show ((0 : Int)).toNat = 0 from rfl] at hx62_0)
         (try simp only [Nat.reduceMul, Nat.zero_mul, Nat.zero_add, Nat.reduceAdd, Nat.add_zero] at hx62_0)
         (try rw [show ((0 : Int)).toNat = 0 from rfl] at hf62_0)
         (try simp only [Nat.reduceMul, Nat.zero_mul, Nat.zero_add, Nat.reduceAdd, Nat.add_zero] at hf62_0)
         replace p62 := eq_true p62
         replace q62 := eq_true q62
         have HN0_go62 := Aside0.mk (show g ≠ go62 from by have h_ := IsS47.own_neQ HI0.out HO_176000.out (by decide); intro e_; exact h_ (by rw [e_]; rfl))
         have HP69 := (Kd.Q_putg HO_176000.out (0 : Int) (by omega) (by have h_ : (0 : Int) < ((x176000_2.length : Int) : Int) := dT; first | exact h_ | (have e_ := (Kd.Q_reads' HO_176000.out).1; omega) | simpa using h_) (rd x176000_2 x12_4)).1
         rw [← Ny183.out] at HP69
         have HQ69 := Aside0.mk HP69
         clear HP69
         refine start_ (n := 9) (S := fun w' => w'.cell? ⟨gb175, 0, none⟩ = some (.slice (some ⟨go62, oo62, none⟩) x176000_2.length co53) ∧ w'.cell? ⟨gb175, 1, none⟩ = some (.slice Ao54 x176001_2.length co54) ∧ w'.cell? ⟨go62, oo62 + (x12_4).toNat, none⟩ = some (.int .i64 (rd x176000_2 x12_4))) (ds := [8]) (tf 0 9) (by kernel_rfl) rfl rfl ⟨(blk_cell BK175.out 0).trans rfl, (blk_cell BK175.out 1).trans rfl, hx182_0⟩ (fun hHeld => ?_); refine with_tabW spec_l91Map.tab18 spec_l91Map.bits18 (fun HT_ HW_ => ?_)
         generalize wr.drew = w68 at HO_11 HO_176000 HO_176001 BK155 BK175 HI0 HK HB GG62 HQ69 hf62_0 hx181_0 hx182_0 hx62_0 hHeld ⊢
         refine pV 0 83 (tf 1 8) HT_ ?_
         refine pV 2 85 (tB 9 5) HT_ ?_
         refine pV 4 87 (tB 9 21) HT_ ?_
         refine tV 1 84 (tB 9 23) HT_ HW_ hHeld ?_
         refine tV 3 86 (tf 5 4) HT_ HW_ hHeld ?_
         refine pV 5 88 (tf 6 3) HT_ ?_
         refine tV 6 89 (tf 7 2) HT_ HW_ hHeld ?_
         refine pV 7 90 (tf 8 1) HT_ ?_
         refine last_ (i := 8) (N := none) (tf 9 0) rfl rfl (one_of HT_.out (by kernel_rfl)) (by decide) (fun K hK => ?_)
         refine skip_ (w1 := ?_) (by rfl) rfl ?_ ?_
         rotate_left
         ·go_simp
          rfl
         refine hK.out _ _ ?_
         clear hK K
         refine done_ (done_of HT_.out (by kernel_rfl)) ?_
         have n0_ : Aside0 (Kd.R (Kd.int .i64) 3 (w68.setCell ⟨go62, oo62, none⟩ (.int .i64 (rd x176000_2 x12_4))) w.heap.size (fun k_ => some k_ ≠ (.slice (some ⟨go62, oo62, none⟩) x176000_2.length co53 : Value).ownBlock ∧ some k_ ≠ (.slice Ao54 x176001_2.length co54 : Value).ownBlock) (.slice (some ad180) t177.length co64) t177) := ⟨rT (Kd.R_mono (Kd.R_far (p := ⟨go62, oo62, none⟩) (Kd.R_mono HO_11.out (fun k_ hk => (⟨hk, fun e_ => hk.1 (by rw [e_]; rfl)⟩ : _ ∧ k_ ≠ go62))) (fun _ hk => hk.2) (.int .i64 (rd x176000_2 x12_4))) (fun _ hk => ⟨hk.1.1, hk.1.2⟩))⟩
         have n1_ : Aside0 (Kd.Q (Kd.int .i64) 3 (w68.setCell ⟨go62, oo62, none⟩ (.int .i64 (rd x176000_2 x12_4))) w.heap.size (fun k_ => some k_ ≠ (.slice (some ad180) t177.length co64 : Value).ownBlock ∧ some k_ ≠ (.slice Ao54 x176001_2.length co54 : Value).ownBlock) (.slice (some ⟨go62, oo62, none⟩) x176000_2.length co53) y183) := ⟨qP HQ69⟩
         have n2_ : Aside0 (Kd.R (Kd.int .i64) 3 (w68.setCell ⟨go62, oo62, none⟩ (.int .i64 (rd x176000_2 x12_4))) w.heap.size (fun k_ => some k_ ≠ (.slice (some ad180) t177.length co64 : Value).ownBlock ∧ some k_ ≠ (.slice (some ⟨go62, oo62, none⟩) x176000_2.length co53 : Value).ownBlock) (.slice Ao54 x176001_2.length co54) x176001_2) := ⟨rT (Kd.R_mono (Kd.R_far (p := ⟨go62, oo62, none⟩) (Kd.R_mono HO_176001.out (fun k_ hk => (⟨hk, fun e_ => hk.2 (by rw [e_]; rfl)⟩ : _ ∧ k_ ≠ go62))) (fun _ hk => hk.2) (.int .i64 (rd x176000_2 x12_4))) (fun _ hk => ⟨hk.1.1, hk.1.2⟩))⟩
         have n3_ : Aside0 ((w68.setCell ⟨go62, oo62, none⟩ (.int .i64 (rd x176000_2 x12_4))).heap[gb155]? = some (.cells #[.slice none 0 0, .slice none 0 0] 25 (0, 0))) := ⟨by (with_reducible repeat (first | refine blk_drewN ?_ _ | refine blk_drew ?_ | refine blk_alloc ?_ _)); refine blk_far ?_ (by have h_ := Kd.Q_ne HO_176000.out BK155.out (by decide); intro e_; exact h_ (by rw [e_]; rfl)) _; (with_reducible repeat (first | refine blk_drewN ?_ _ | refine blk_drew ?_ | refine blk_alloc ?_ _)); exact BK155.out⟩
         have n4_ : Aside0 ((w68.setCell ⟨go62, oo62, none⟩ (.int .i64 (rd x176000_2 x12_4))).heap[gb175]? = some (.cells #[.slice (some ⟨go62, oo62, none⟩) x176000_2.length co53, .slice Ao54 x176001_2.length co54] 25 (0, 0))) := ⟨by (with_reducible repeat (first | refine blk_drewN ?_ _ | refine blk_drew ?_ | refine blk_alloc ?_ _)); refine blk_far ?_ (by have h_ := Kd.Q_ne HO_176000.out BK175.out (by decide); intro e_; exact h_ (by rw [e_]; rfl)) _; (with_reducible repeat (first | refine blk_drewN ?_ _ | refine blk_drew ?_ | refine blk_alloc ?_ _)); exact BK175.out⟩
         have n5_ : Aside0 (IsS47 w0 (w68.setCell ⟨go62, oo62, none⟩ (.int .i64 (rd x176000_2 x12_4))) g s0_0 t174) := ⟨by repeat (first | (with_reducible first | exact HI0.out | apply IsS47.alloc | apply IsS47.drewN | apply IsS47.drew | apply IsS47.set_1 | refine IsS47.far ?_ HN0_go62.out _ | refine IsS47.far ?_ NB0_155.out _ | refine IsS47.far ?_ NB0_175.out _) | exact HI0.out)⟩
         have n6_ : Aside0 (KeepBut w (w68.setCell ⟨go62, oo62, none⟩ (.int .i64 (rd x176000_2 x12_4))) g none) := ⟨by repeat (first | (with_reducible first | exact HK.out | apply KeepBut.set_ | apply keep_drewN | apply keep_drew | apply keep_alloc | refine keep_far ?_ GB62.out _ | refine keep_far ?_ GW155.out _ | refine keep_far ?_ GW175.out _) | exact HK.out)⟩
         have n7_ : Aside0 (Below w0.heap.size w0 (w68.setCell ⟨go62, oo62, none⟩ (.int .i64 (rd x176000_2 x12_4)))) := ⟨by repeat (first | (with_reducible first | exact HB.out | apply below_alloc | apply pw_below_drewN | apply below_drew1 | refine below_set ?_ (Nat.le_trans HL.out GB62.out) | refine below_set ?_ (IsS47.ge HI0.out) | refine below_set ?_ GE155.out | refine below_set ?_ GE175.out) | exact HB.out)⟩
         (try clear HO_11)
         (try clear HO_176000)
         (try clear HO_176001)
         (try clear BK155)
         (try clear BK175)
         (try clear HI0)
         (try clear HK)
         (try clear HB)
         generalize (w68.setCell ⟨go62, oo62, none⟩ (.int .i64 (rd x176000_2 x12_4))) = w70 at n0_ n1_ n2_ n3_ n4_ n5_ n6_ n7_ ⊢
         have HO_11 := n0_
         have HO_176000 := n1_
         have HO_176001 := n2_
         have BK155 := n3_
         have BK175 := n4_
         have HI0 := n5_
         have HK := n6_
         have HB := n7_
         clear n0_ n1_ n2_ n3_ n4_ n5_ n6_ n7_
         have hcz71_0 := zc0 BK175
         have hcz71_1 := zc1 BK175
         have hfz71_0 := blk_frozen BK175.out 0
         have hfz71_1 := blk_frozen BK175.out 1
         have p63 : 0 ≤ (x12_4 : Int) := dT
         have q63 : (x12_4 : Int) < ((x176000_2.length : Int) : Int) := dT
         obtain ⟨hx63_0, hf63_0⟩ := Kd.Q_cell 0 HO_176000.out (x12_4 : Int) p63 q63
         replace p63 := eq_true p63
         replace q63 := eq_true q63
         obtain ⟨hy72_, hz72_⟩ := Kd.Q_cell 0 HO_176000.out (x12_4 : Int) (dT) (dT)
         have HP72 := Kd.Q_putg HO_176000.out (x12_4 : Int) (dT) (by have h_ : (x12_4 : Int) < ((x176000_2.length : Int) : Int) := dT; first | exact h_ | (have e_ := (Kd.Q_reads' HO_176000.out).1; omega) | simpa using h_) (rd x176000_2 0)
         try go_wp2_with (first | ((with_reducible refine gate_store (t := 3) (p := 95) rfl ?_); refine store_event (t := 3) (p := 95) (v := ?vo_w73) (w1 := (w70.setCell ⟨go62, oo62 + (x12_4 : Int).toNat, none⟩ (.int .i64 (rd x176000_2 0)))) ?hg ?ho ?hn ?hr ?_; (case ho => rfl); (case hg => rfl); (case hn => rfl); (case hr => first | (go_simp; done) | (go_simp; rfl)); intro w73 hw; have hg : w70.grownBy w73 (some go62) := (by rw [hw]; exact HP72.2); have hp_ : Kd.Q (Kd.int .i64) 3 w73 w.heap.size (fun k_ => some k_ ≠ (.slice (some ad180) t177.length co64 : Value).ownBlock ∧ some k_ ≠ (.slice Ao54 x176001_2.length co54 : Value).ownBlock) (.slice (some ⟨go62, oo62, none⟩) x176000_2.length co53) y184 := (by rw [hw, Ny184.out]; exact HP72.1); clear HP72; replace HO_11 := Aside0.mk (Kd.R_after (v := (.slice (some ⟨go62, oo62, none⟩) x176000_2.length co53)) (v1 := (.slice (some ⟨go62, oo62, none⟩) x176000_2.length co53)) (ok := (fun k_ => some k_ ≠ (.slice Ao54 x176001_2.length co54 : Value).ownBlock)) (rT (Kd.R_mono HO_11.out (fun _ hk => ⟨hk.2, hk.1⟩))) hg (.inl rfl)); replace HO_176001 := Aside0.mk (Kd.R_after (v := (.slice (some ⟨go62, oo62, none⟩) x176000_2.length co53)) (v1 := (.slice (some ⟨go62, oo62, none⟩) x176000_2.length co53)) (ok := (fun k_ => some k_ ≠ (.slice (some ad180) t177.length co64 : Value).ownBlock)) (rP HO_176001) hg (.inl rfl)); replace BK155 := Aside0.mk (blk_grown (g := gb155) (o := .cells #[.slice none 0 0, .slice none 0 0] 25 (0, 0)) (kP BK155) hg (Kd.Q_ne HO_176000.out BK155.out (by decide))); replace BK175 := Aside0.mk (blk_grown (g := gb175) (o := .cells #[.slice (some ⟨go62, oo62, none⟩) x176000_2.length co53, .slice Ao54 x176001_2.length co54] 25 (0, 0)) (kP BK175) hg (Kd.Q_ne HO_176000.out BK175.out (by decide))); replace HI0 := Aside0.mk (IsS47.grown (by repeat (first | (with_reducible first | exact HI0.out | apply IsS47.alloc | apply IsS47.drewN | apply IsS47.drew | apply IsS47.set_1 | refine IsS47.far ?_ NB0_155.out _ | refine IsS47.far ?_ NB0_175.out _) | exact HI0.out)) hg (IsS47.own_neQ HI0.out HO_176000.out (by decide))); replace HB := Aside0.mk ((by rw [hw]; exact below_set (HB.out) (Nat.le_trans HL.out GB62.out) : Below w0.heap.size w0 w73)); replace HK := Aside0.mk (KeepBut.trans (by repeat (first | (with_reducible first | exact HK.out | apply KeepBut.set_ | apply keep_drewN | apply keep_drew | apply keep_alloc | refine keep_far ?_ GW155.out _ | refine keep_far ?_ GW175.out _) | exact HK.out)) (KeepBut.of_grown hg g) (Kd.Q_base2 HO_176000.out)); replace HO_176000 := Aside0.mk (hp_); clear hg hw hp_))
         go_roundg k4
         case measure => have := HK1.out; have := HK2.out; have := HJ38.out; have := HK4.out; omega
         case rel => exact ⟨(wrap64 (x10_2 + 1)), (y184), (x176001_2), (.slice (some ⟨go62, oo62, none⟩) x176000_2.length co53), (.slice Ao54 x176001_2.length co54), eS, H', ⟨by have := HK1.out; have := HK2.out; have := HJ38.out; have := HK4.out; omega⟩, ⟨qT (Kd.Q_mono HO_176000.out (fun _ hk => hk.2))⟩, ⟨rT (Kd.R_mono HO_176001.out (fun _ hk => hk.2))⟩, ⟨kP BK155⟩, ⟨kP BK175⟩, ⟨by repeat (first | (with_reducible first | exact HI0.out | apply IsS47.alloc | apply IsS47.drewN | apply IsS47.drew | apply IsS47.set_1 | refine IsS47.far ?_ NB0_155.out _ | refine IsS47.far ?_ NB0_175.out _) | exact HI0.out)⟩, ⟨by repeat (first | (with_reducible first | exact HK.out | apply KeepBut.set_ | apply keep_drewN | apply keep_drew | apply keep_alloc | refine keep_far ?_ GW155.out _ | refine keep_far ?_ GW175.out _) | exact HK.out)⟩, ⟨by repeat (first | (with_reducible first | exact HB.out | apply below_alloc | apply pw_below_drewN | apply below_drew1 | refine below_set ?_ (IsS47.ge HI0.out) | refine below_set ?_ GE155.out | refine below_set ?_ GE175.out) | exact HB.out)⟩⟩
 ·rw [if_neg c6] at H
  exact absurd H (by simp)

end Go.Proofs.Ytjnbbnaidjodlaa.F
