/- Contracts: what these Go functions return. -/
import Derived.Test.YtajmkjeiegdpcaaF0
import Derived.Test.YtajmkjeiegdpcaaF16
import Derived.Test.YtajmkjeiegdpcaaF31
import Derived.Test.YtajmkjeiegdpcaaF32
namespace Go.Proofs.Ytajmkjeiegdpcaa.F
open Go.RowKit Go.Proofs.YtajmkjeiegdpcaaW.PrintWords Go.Proofs.YtajmkjeiegdpcaaW.PrintLast Go.Proofs.YtajmkjeiegdpcaaW.PrintMore
attribute [local go_sem] max2_int min2_int max_two min_two max_three min_three max_four min_four
set_option linter.unusedVariables false
set_option linter.unusedSimpArgs false

/-! ### spec_l2Least: function 47 -/
def spec_l2Least.l0 : Nat → Int → List Int → List Int → List Int → List Int → Option (List Int × List Int)
 | 0, _, _, _, _, _ => none
 | k + 1, x4, x617000, x617001, x625000, x625001 => if x4 < (x617000.length : Int) then ((spec_l2Form.f k x617000 x617001 x4).bind fun bt625 => ((spec_l2Before.f k bt625.1 bt625.2 x625000 x625001).bind fun t632 => (if t632 < 0 then (spec_l2Least.l0 k (wrap64 (x4 + 1)) x617000 x617001 bt625.1 bt625.2) else (spec_l2Least.l0 k (wrap64 (x4 + 1)) x617000 x617001 x625000 x625001)))) else (some (x625000, x625001))
def spec_l2Least.f (k : Nat) (l0_0 : List Int) (l0_1 : List Int) : Option (List Int × List Int) := (spec_l2Form.f k l0_0 l0_1 0).bind fun bt618 => (spec_l2Least.l0 k 1 l0_0 l0_1 bt618.1 bt618.2)
theorem spec_l2Least.mono_l : ∀ k, (∀ y0 y1 y2 y3 y4, LeO (spec_l2Least.l0 k y0 y1 y2 y3 y4) (spec_l2Least.l0 (k + 1) y0 y1 y2 y3 y4))
 | 0 => fun _ _ _ _ _ r h => by simp [spec_l2Least.l0] at h
 | k + 1 => by
  have ih0 := spec_l2Least.mono_l k
  ·intro y0 y1 y2 y3 y4
   unfold spec_l2Least.l0
   repeat' first
   | (with_reducible exact ih0 _ _ _ _ _)
   | (with_reducible exact spec_l2Before.mono _ _ _ _ _)
   | (with_reducible exact spec_l2Form.mono _ _ _ _)
   | (with_reducible exact LeO.refl _)
   | (with_reducible exact LeO.none _)
   | (with_reducible refine LeO.ite ?_ ?_)
   | (with_reducible refine LeO.bind ?_ (fun _ => ?_))
   | exact ih0 _ _ _ _ _
   | exact spec_l2Before.mono _ _ _ _ _
   | exact spec_l2Form.mono _ _ _ _
   | exact LeO.none _
   | refine LeO.ite ?_ ?_
   | refine LeO.bind ?_ (fun _ => ?_)
theorem spec_l2Least.mono : ∀ a0 a1 k, LeO (spec_l2Least.f k a0 a1) (spec_l2Least.f (k + 1) a0 a1) := by
 intro a0 a1 k
 have ih0 := spec_l2Least.mono_l k
 unfold spec_l2Least.f
 repeat' first
  | (with_reducible exact ih0 _ _ _ _ _)
  | (with_reducible exact spec_l2Before.mono _ _ _ _ _)
  | (with_reducible exact spec_l2Form.mono _ _ _ _)
  | (with_reducible exact LeO.refl _)
  | (with_reducible exact LeO.none _)
  | (with_reducible refine LeO.ite ?_ ?_)
  | (with_reducible refine LeO.bind ?_ (fun _ => ?_))
  | exact ih0 _ _ _ _ _
  | exact spec_l2Before.mono _ _ _ _ _
  | exact spec_l2Form.mono _ _ _ _
  | exact LeO.none _
  | refine LeO.ite ?_ ?_
  | refine LeO.bind ?_ (fun _ => ?_)
set_option maxHeartbeats 8000000 in
set_option maxRecDepth 100000 in
theorem spec_l2Least.calls (k : Nat) (A0_0 : Option Addr) (c0_0 : Nat) (l0_0 : List Int) (A0_1 : Option Addr) (c0_1 : Nat) (l0_1 : List Int) (r1 : List Int) (r2 : List Int) (w : World) (hr0_0 : Kd.C (Kd.int .i64) w A0_0 l0_0.length l0_0) (hc0_0 : l0_0.length ≤ c0_0) (hr0_1 : Kd.C (Kd.int .i64) w A0_1 l0_1.length l0_1) (hc0_1 : l0_1.length ≤ c0_1) (h : spec_l2Least.f k l0_0 l0_1 = some (r1, r2)) :
 Calls Try.prog 47 #[.agg #[.slice A0_0 l0_0.length c0_0, .slice A0_1 l0_1.length c0_1]] w fun e w' => ∃ v0_ v1_ : Value, e = .returned (.agg #[v0_, v1_]) ∧ Kd.R (Kd.int .i64) 3 w' w.heap.size (fun k_ => some k_ ≠ (v1_ : Value).ownBlock) v0_ r1 ∧ Kd.R (Kd.int .i64) 3 w' w.heap.size (fun k_ => some k_ ≠ (v0_ : Value).ownBlock) v1_ r2 ∧ Below w.heap.size w w' := by
 have hu40 := Try.underlying40
 have HR0_0 := Aside0.mk hr0_0
 have HC0_0 := Aside0.mk hc0_0
 clear hr0_0 hc0_0
 have HR0_1 := Aside0.mk hr0_1
 have HC0_1 := Aside0.mk hc0_1
 clear hr0_1 hc0_1
 have HB := Aside0.mk (Below.refl w.heap.size w)
 have H : ((spec_l2Form.f k l0_0 l0_1 0).bind fun bt618 => (spec_l2Least.l0 k 1 l0_0 l0_1 bt618.1 bt618.2)) = some (r1, r2) := h
 clear h
 replace H := Option.bind_eq_some_iff.mp H
 obtain ⟨⟨t618, t621⟩, A20, H⟩ := H
 replace H : (spec_l2Least.l0 k 1 l0_0 l0_1 t618 t621) = some (r1, r2) := H
 have A2 := Aside0.mk A20
 clear A20
 have H' := Aside0.mk H
 clear H
 go_enter Try.func47, Try.ntmps47
 go_wp2_with (first | ((with_reducible refine gate_dst (N := 1) rfl ?_); refine bE 1 #[.slice A0_0 l0_0.length c0_0, .slice A0_1 l0_1.length c0_1] 40 ?_; intro gb616 hg w3 hbox hb; have BK616 := Aside0.mk (hbox); have GW616 := gS HB hg; have GE616 := gS HB hg; replace HB := bS HB hb; clear hb hbox hg) | ((with_reducible refine gate_dst (N := 2) rfl ?_); refine bE 2 #[.slice none 0 0, .slice none 0 0] 40 ?_; intro gb617 hg w4 hbox hb; have BK617 := Aside0.mk (hbox); have GW617 := gS HB hg; have GE617 := gS HB hg; replace HB := bS HB hb; have NB616_617 := nL BK616 hg; have NB617_616 := nG BK616 hg; replace BK616 := kB BK616 hb; clear hb hbox hg; have hnb5 := NB616_617.out; have hnc5 := NB617_616.out; have hcz6_0 := zc0 BK616; have hcz6_1 := zc1 BK616; have hfz6_0 := blk_frozen BK616.out 0; have hfz6_1 := blk_frozen BK616.out 1) | ((with_reducible refine gate_callee (f := 59) rfl ?_); refine gL (some 7) Try.func59 #[.agg #[.slice A0_0 l0_0.length c0_0, .slice A0_1 l0_1.length c0_1], .int .i64 0] ?_; (with_reducible refine (spec_l2Form.calls k _ _ l0_0 _ _ l0_1 0 t618 t621 _ ?side1 ?side2 ?side3 ?side4 A2.out).mono ?_); (case side1 => exact cB HR0_0 HB); (case side2 => exact HC0_0.out); (case side3 => exact cB HR0_1 HB); (case side4 => exact HC0_1.out); rintro e w7 ⟨v619, v622, rfl, ho0, ho1, hb⟩; refine ⟨_, rfl, ?_⟩; have HO620 := rL ho0 HB; have HO623 := rL ho1 HB; replace BK616 := kB BK616 hb; replace BK617 := kB BK617 hb; replace HB := bS HB hb; (try clear hb); (try clear hb2); (try clear hk); (try clear hi); (try clear ho0); (try clear ho1)) | ((with_reducible refine gate_dst (N := 3) rfl ?_); refine bE 3 #[.slice none 0 0, .slice none 0 0] 40 ?_; intro gb624 hg w8 hbox hb; replace HO620 := rB HO620 hb; replace HO623 := rB HO623 hb; have BK624 := Aside0.mk (hbox); have GW624 := gS HB hg; have GE624 := gS HB hg; replace HB := bS HB hb; have NB616_624 := nL BK616 hg; have NB624_616 := nG BK616 hg; replace BK616 := kB BK616 hb; have NB617_624 := nL BK617 hg; have NB624_617 := nG BK617 hg; replace BK617 := kB BK617 hb; clear hb hbox hg; obtain ⟨Ao9, co9, eo9⟩ := Kd.R_slice HO620.out; subst eo9; have hnb10 := NB624_616.out; have hnc10 := NB616_624.out; have hnb11 := NB624_617.out; have hnc11 := NB617_624.out; have hcz12_0 := zc0 BK624; have hcz12_1 := zc1 BK624; have hfz12_0 := blk_frozen BK624.out 0; have hfz12_1 := blk_frozen BK624.out 1; obtain ⟨Ao13, co13, eo13⟩ := Kd.R_slice HO623.out; subst eo13))
 go_loopg [4] k (fun kq v4 w' => ∃ (x4_1 : Int) (x625000_1 : List Int) (x625001_1 : List Int) (u625000 : Value) (u625001 : Value), v4 = .int .i64 x4_1 ∧ Aside0 (spec_l2Least.l0 kq x4_1 l0_0 l0_1 x625000_1 x625001_1 = some (r1, r2)) ∧ Aside0 (kq ≤ k) ∧ Aside0 (Kd.R (Kd.int .i64) 3 w' w.heap.size (fun k_ => some k_ ≠ (u625001 : Value).ownBlock) u625000 x625000_1) ∧ Aside0 (Kd.R (Kd.int .i64) 3 w' w.heap.size (fun k_ => some k_ ≠ (u625000 : Value).ownBlock) u625001 x625001_1) ∧ Aside0 (w'.heap[gb616]? = some (.cells #[(.slice A0_0 l0_0.length c0_0), (.slice A0_1 l0_1.length c0_1)] 40 (0, 0))) ∧ Aside0 (w'.heap[gb617]? = some (.cells #[(.slice none 0 0), (.slice none 0 0)] 40 (0, 0))) ∧ Aside0 (w'.heap[gb624]? = some (.cells #[u625000, u625001] 40 (0, 0))) ∧ Aside0 (Below w.heap.size w w'))
 case atStart => exact ⟨(1), (t618), (t621), (.slice Ao9 t618.length co9), (.slice Ao13 t621.length co13), eS, H', ⟨Nat.le_refl _⟩, ⟨by (with_reducible repeat (first | apply Kd.R_alloc | apply Kd.R_drewN | apply Kd.R_drew)); exact Kd.R_mono (Kd.R_far (p := ⟨gb624, 1, none⟩) (Kd.R_far (p := ⟨gb624, 0, none⟩) (Kd.R_types HO620.out BK624.out (by decide)) (fun _ hk => hk.2) (.slice Ao9 t618.length co9)) (fun _ hk => hk.2) (.slice Ao13 t621.length co13)) (fun _ hk => hk.1)⟩, ⟨by (with_reducible repeat (first | apply Kd.R_alloc | apply Kd.R_drewN | apply Kd.R_drew)); exact Kd.R_mono (Kd.R_far (p := ⟨gb624, 1, none⟩) (Kd.R_far (p := ⟨gb624, 0, none⟩) (Kd.R_types HO623.out BK624.out (by decide)) (fun _ hk => hk.2) (.slice Ao9 t618.length co9)) (fun _ hk => hk.2) (.slice Ao13 t621.length co13)) (fun _ hk => hk.1)⟩, ⟨kF BK616⟩, ⟨kF BK617⟩, ⟨by (with_reducible repeat (first | refine blk_drewN ?_ _ | refine blk_drew ?_ | refine blk_alloc ?_ _)); refine blk_put (cs := #[.slice Ao9 t618.length co9, .slice none 0 0]) ?_ 1 _ rfl; (with_reducible repeat (first | refine blk_drewN ?_ _ | refine blk_drew ?_ | refine blk_alloc ?_ _)); refine blk_put (cs := #[.slice none 0 0, .slice none 0 0]) ?_ 0 _ rfl; (with_reducible repeat (first | refine blk_drewN ?_ _ | refine blk_drew ?_ | refine blk_alloc ?_ _)); exact BK624.out⟩, ⟨bP HB⟩⟩
 case round =>
  clear H'
  try clear c1
  try clear p2
  try clear c4
  try clear c5
  try clear c10
  try clear c11
  try clear hcz12_0
  try clear hcz12_1
  try clear hcz6_0
  try clear hcz6_1
  try clear hfz12_0
  try clear hfz12_1
  try clear hfz6_0
  try clear hfz6_1
  obtain ⟨x4_1, x625000_1, x625001_1, u625000, u625001, rfl, HA, HK1, HO_625000, HO_625001, BK616, BK617, BK624, HB⟩ := hrel
  cases gk with
  | zero => exact absurd HA.out (by simp [spec_l2Least.l0])
  | succ k1 =>
   have H := HA.out
   clear HA
   simp only [spec_l2Least.l0] at H
   by_cases c14 : x4_1 < (l0_0.length : Int)
   ·rw [if_pos c14] at H
    have c14b0 : decide (x4_1 < (l0_0.length : Int)) = true := decide_eq_true c14
    clear c14
    replace H := Option.bind_eq_some_iff.mp H
    obtain ⟨⟨t625, t628⟩, A150, H⟩ := H
    replace H : ((spec_l2Before.f k1 t625 t628 x625000_1 x625001_1).bind fun t632 => (if t632 < 0 then (spec_l2Least.l0 k1 (wrap64 (x4_1 + 1)) l0_0 l0_1 t625 t628) else (spec_l2Least.l0 k1 (wrap64 (x4_1 + 1)) l0_0 l0_1 x625000_1 x625001_1))) = some (r1, r2) := H
    have A15 := Aside0.mk A150
    clear A150
    replace H := Option.bind_eq_some_iff.mp H
    obtain ⟨t632, A160, H⟩ := H
    replace H : (if t632 < 0 then (spec_l2Least.l0 k1 (wrap64 (x4_1 + 1)) l0_0 l0_1 t625 t628) else (spec_l2Least.l0 k1 (wrap64 (x4_1 + 1)) l0_0 l0_1 x625000_1 x625001_1)) = some (r1, r2) := H
    have A16 := Aside0.mk A160
    clear A160
    by_cases c17 : t632 < 0
    ·rw [if_pos c17] at H
     have c17b0 : decide (t632 < 0) = true := decide_eq_true c17
     clear c17
     have H' := Aside0.mk H
     clear H
     have hnb18 := NB616_617.out
     have hnc18 := NB617_616.out
     have hnb19 := NB616_624.out
     have hnc19 := NB624_616.out
     have hcz20_0 := zc0 BK616
     have hcz20_1 := zc1 BK616
     have hfz20_0 := blk_frozen BK616.out 0
     have hfz20_1 := blk_frozen BK616.out 1
     go_wp2_with (first | ((with_reducible refine gate_callee (f := 59) rfl ?_); refine gL (some 17) Try.func59 #[.agg #[.slice A0_0 l0_0.length c0_0, .slice A0_1 l0_1.length c0_1], .int .i64 x4_1] ?_; (with_reducible refine (spec_l2Form.calls k1 _ _ l0_0 _ _ l0_1 x4_1 t625 t628 _ ?side1 ?side2 ?side3 ?side4 A15.out).mono ?_); (case side1 => exact cB HR0_0 HB); (case side2 => exact HC0_0.out); (case side3 => exact cB HR0_1 HB); (case side4 => exact HC0_1.out); rintro e w21 ⟨v626, v629, rfl, ho0, ho1, hb⟩; refine ⟨_, rfl, ?_⟩; have HO627 := Aside0.mk (Kd.R_lower (Kd.R_new' (Kd.R_new' ho0 (Kd.R_lt (rP HO_625000))) (Kd.R_lt (rP HO_625001))) (below_size (bP HB))); have HO630 := Aside0.mk (Kd.R_lower (Kd.R_new' (Kd.R_new' ho1 (Kd.R_lt (rP HO_625000))) (Kd.R_lt (rP HO_625001))) (below_size (bP HB))); replace HO_625000 := Aside0.mk (Kd.R_mono (Kd.R_told (Kd.R_told (Kd.R_old (rP HO_625000) hb) (Kd.R_base ho0)) (Kd.R_base ho1)) (fun _ h_ => h_.1)); replace HO_625001 := Aside0.mk (Kd.R_mono (Kd.R_told (Kd.R_told (Kd.R_old (rP HO_625001) hb) (Kd.R_base ho0)) (Kd.R_base ho1)) (fun _ h_ => h_.1)); replace BK616 := kB BK616 hb; replace BK617 := kB BK617 hb; replace BK624 := kB BK624 hb; replace HB := bS HB hb; (try clear hb); (try clear hb2); (try clear hk); (try clear hi); (try clear ho0); (try clear ho1)) | ((with_reducible refine gate_dst (N := 5) rfl ?_); refine bE 5 #[.slice none 0 0, .slice none 0 0] 40 ?_; intro gb631 hg w22 hbox hb; replace HO_625000 := rB HO_625000 hb; replace HO_625001 := rB HO_625001 hb; replace HO627 := rB HO627 hb; replace HO630 := rB HO630 hb; have BK631 := Aside0.mk (hbox); have GW631 := gS HB hg; have GE631 := gS HB hg; replace HB := bS HB hb; have NB616_631 := nL BK616 hg; have NB631_616 := nG BK616 hg; replace BK616 := kB BK616 hb; have NB617_631 := nL BK617 hg; have NB631_617 := nG BK617 hg; replace BK617 := kB BK617 hb; have NB624_631 := nL BK624 hg; have NB631_624 := nG BK624 hg; replace BK624 := kB BK624 hb; clear hb hbox hg; obtain ⟨Ao23, co23, eo23⟩ := Kd.R_slice HO627.out; subst eo23; have hnb24 := NB631_616.out; have hnc24 := NB616_631.out; have hnb25 := NB631_617.out; have hnc25 := NB617_631.out; have hnb26 := NB631_624.out; have hnc26 := NB624_631.out; have hcz27_0 := zc0 BK631; have hcz27_1 := zc1 BK631; have hfz27_0 := blk_frozen BK631.out 0; have hfz27_1 := blk_frozen BK631.out 1; obtain ⟨Ao28, co28, eo28⟩ := Kd.R_slice HO630.out; subst eo28; have hnb29 := NB624_617.out; have hnc29 := NB617_624.out; have hcz30_0 := zc0 BK624; have hcz30_1 := zc1 BK624; have hfz30_0 := blk_frozen BK624.out 0; have hfz30_1 := blk_frozen BK624.out 1; obtain ⟨Ao31, co31, eo31⟩ := Kd.R_slice HO_625000.out; subst eo31; obtain ⟨Ao32, co32, eo32⟩ := Kd.R_slice HO_625001.out; subst eo32) | ((with_reducible refine gate_callee (f := 60) rfl ?_); refine gL (some 20) Try.func60 #[.agg #[.slice Ao23 t625.length co23, .slice Ao28 t628.length co28], .agg #[.slice Ao31 x625000_1.length co31, .slice Ao32 x625001_1.length co32]] ?_; (with_reducible refine (spec_l2Before.calls k1 _ _ t625 _ _ t628 _ _ x625000_1 _ _ x625001_1 t632 _ ?side1 ?side2 ?side3 ?side4 ?side5 ?side6 ?side7 ?side8 A16.out).mono ?_); (case side1 => refine (Kd.R_reads' (e := 3) (base := w.heap.size) (ok := fun k_ => ((some k_ ≠ (.slice Ao28 t628.length co28 : Value).ownBlock ∧ some k_ ≠ (.slice Ao31 x625000_1.length co31 : Value).ownBlock) ∧ some k_ ≠ (.slice Ao32 x625001_1.length co32 : Value).ownBlock)) (n := t625.length) (c := co23) ?_).2.2; exact (rT (Kd.R_mono (Kd.R_far (p := ⟨gb631, 1, none⟩) (Kd.R_far (p := ⟨gb631, 0, none⟩) (Kd.R_types HO627.out BK631.out (by decide)) (fun _ hk => hk.2) (.slice Ao23 t625.length co23)) (fun _ hk => hk.2) (.slice Ao28 t628.length co28)) (fun _ h_ => h_.1)))); (case side2 => exact (Kd.R_reads' HO627.out).2.1); (case side3 => refine (Kd.R_reads' (e := 3) (base := w.heap.size) (ok := fun k_ => ((some k_ ≠ (.slice Ao23 t625.length co23 : Value).ownBlock ∧ some k_ ≠ (.slice Ao31 x625000_1.length co31 : Value).ownBlock) ∧ some k_ ≠ (.slice Ao32 x625001_1.length co32 : Value).ownBlock)) (n := t628.length) (c := co28) ?_).2.2; exact (rT (Kd.R_mono (Kd.R_far (p := ⟨gb631, 1, none⟩) (Kd.R_far (p := ⟨gb631, 0, none⟩) (Kd.R_types HO630.out BK631.out (by decide)) (fun _ hk => hk.2) (.slice Ao23 t625.length co23)) (fun _ hk => hk.2) (.slice Ao28 t628.length co28)) (fun _ h_ => h_.1)))); (case side4 => exact (Kd.R_reads' HO630.out).2.1); (case side5 => refine (Kd.R_reads' (e := 3) (base := w.heap.size) (ok := fun k_ => ((some k_ ≠ (.slice Ao32 x625001_1.length co32 : Value).ownBlock ∧ some k_ ≠ (.slice Ao23 t625.length co23 : Value).ownBlock) ∧ some k_ ≠ (.slice Ao28 t628.length co28 : Value).ownBlock)) (n := x625000_1.length) (c := co31) ?_).2.2; exact (rT (Kd.R_mono (Kd.R_far (p := ⟨gb631, 1, none⟩) (Kd.R_far (p := ⟨gb631, 0, none⟩) (Kd.R_types HO_625000.out BK631.out (by decide)) (fun _ hk => hk.2) (.slice Ao23 t625.length co23)) (fun _ hk => hk.2) (.slice Ao28 t628.length co28)) (fun _ h_ => h_.1)))); (case side6 => exact (Kd.R_reads' HO_625000.out).2.1); (case side7 => refine (Kd.R_reads' (e := 3) (base := w.heap.size) (ok := fun k_ => ((some k_ ≠ (.slice Ao31 x625000_1.length co31 : Value).ownBlock ∧ some k_ ≠ (.slice Ao23 t625.length co23 : Value).ownBlock) ∧ some k_ ≠ (.slice Ao28 t628.length co28 : Value).ownBlock)) (n := x625001_1.length) (c := co32) ?_).2.2; exact (rT (Kd.R_mono (Kd.R_far (p := ⟨gb631, 1, none⟩) (Kd.R_far (p := ⟨gb631, 0, none⟩) (Kd.R_types HO_625001.out BK631.out (by decide)) (fun _ hk => hk.2) (.slice Ao23 t625.length co23)) (fun _ hk => hk.2) (.slice Ao28 t628.length co28)) (fun _ h_ => h_.1)))); (case side8 => exact (Kd.R_reads' HO_625001.out).2.1); rintro e w33 ⟨rfl, hb⟩; refine ⟨_, rfl, ?_⟩; replace HO_625000 := Aside0.mk (Kd.R_below (rT (Kd.R_mono (Kd.R_far (p := ⟨gb631, 1, none⟩) (Kd.R_far (p := ⟨gb631, 0, none⟩) (Kd.R_types HO_625000.out BK631.out (by decide)) (fun _ hk => hk.2) (.slice Ao23 t625.length co23)) (fun _ hk => hk.2) (.slice Ao28 t628.length co28)) (fun _ h_ => h_.1))) hb); replace HO_625001 := Aside0.mk (Kd.R_below (rT (Kd.R_mono (Kd.R_far (p := ⟨gb631, 1, none⟩) (Kd.R_far (p := ⟨gb631, 0, none⟩) (Kd.R_types HO_625001.out BK631.out (by decide)) (fun _ hk => hk.2) (.slice Ao23 t625.length co23)) (fun _ hk => hk.2) (.slice Ao28 t628.length co28)) (fun _ h_ => h_.1))) hb); replace HO627 := Aside0.mk (Kd.R_below (rT (Kd.R_mono (Kd.R_far (p := ⟨gb631, 1, none⟩) (Kd.R_far (p := ⟨gb631, 0, none⟩) (Kd.R_types HO627.out BK631.out (by decide)) (fun _ hk => hk.2) (.slice Ao23 t625.length co23)) (fun _ hk => hk.2) (.slice Ao28 t628.length co28)) (fun _ h_ => h_.1))) hb); replace HO630 := Aside0.mk (Kd.R_below (rT (Kd.R_mono (Kd.R_far (p := ⟨gb631, 1, none⟩) (Kd.R_far (p := ⟨gb631, 0, none⟩) (Kd.R_types HO630.out BK631.out (by decide)) (fun _ hk => hk.2) (.slice Ao23 t625.length co23)) (fun _ hk => hk.2) (.slice Ao28 t628.length co28)) (fun _ h_ => h_.1))) hb); replace BK616 := kG BK616 hb; replace BK617 := kG BK617 hb; replace BK624 := kG BK624 hb; replace BK631 := Aside0.mk (blk_below (g := gb631) (o := .cells #[.slice Ao23 t625.length co23, .slice Ao28 t628.length co28] 40 (0, 0)) (by (with_reducible repeat (first | refine blk_drewN ?_ _ | refine blk_drew ?_ | refine blk_alloc ?_ _)); refine blk_put (cs := #[.slice Ao23 t625.length co23, .slice none 0 0]) ?_ 1 _ rfl; (with_reducible repeat (first | refine blk_drewN ?_ _ | refine blk_drew ?_ | refine blk_alloc ?_ _)); refine blk_put (cs := #[.slice none 0 0, .slice none 0 0]) ?_ 0 _ rfl; (with_reducible repeat (first | refine blk_drewN ?_ _ | refine blk_drew ?_ | refine blk_alloc ?_ _)); exact BK631.out) hb); replace HB := bS HB hb; (try clear hb); (try clear hb2); (try clear hk); (try clear hi); have hcz34_0 := zc0 BK631; have hcz34_1 := zc1 BK631; have hfz34_0 := blk_frozen BK631.out 0; have hfz34_1 := blk_frozen BK631.out 1; have hcz35_0 := zc0 BK624; have hcz35_1 := zc1 BK624; have hfz35_0 := blk_frozen BK624.out 0; have hfz35_1 := blk_frozen BK624.out 1))
     go_roundg k1
     case measure => have := HK1.out; omega
     case rel => exact ⟨(wrap64 (x4_1 + 1)), (t625), (t628), (.slice Ao23 t625.length co23), (.slice Ao28 t628.length co28), eS, H', ⟨by have := HK1.out; omega⟩, ⟨by (with_reducible repeat (first | apply Kd.R_alloc | apply Kd.R_drewN | apply Kd.R_drew)); exact Kd.R_mono (Kd.R_far (p := ⟨gb624, 1, none⟩) (Kd.R_far (p := ⟨gb624, 0, none⟩) (Kd.R_types HO627.out BK624.out (by decide)) (fun _ hk => hk.2) (.slice Ao23 t625.length co23)) (fun _ hk => hk.2) (.slice Ao28 t628.length co28)) (fun _ hk => hk.1.1.1)⟩, ⟨by (with_reducible repeat (first | apply Kd.R_alloc | apply Kd.R_drewN | apply Kd.R_drew)); exact Kd.R_mono (Kd.R_far (p := ⟨gb624, 1, none⟩) (Kd.R_far (p := ⟨gb624, 0, none⟩) (Kd.R_types HO630.out BK624.out (by decide)) (fun _ hk => hk.2) (.slice Ao23 t625.length co23)) (fun _ hk => hk.2) (.slice Ao28 t628.length co28)) (fun _ hk => hk.1.1.1)⟩, ⟨kF BK616⟩, ⟨kF BK617⟩, ⟨by (with_reducible repeat (first | refine blk_drewN ?_ _ | refine blk_drew ?_ | refine blk_alloc ?_ _)); refine blk_put (cs := #[.slice Ao23 t625.length co23, .slice Ao32 x625001_1.length co32]) ?_ 1 _ rfl; (with_reducible repeat (first | refine blk_drewN ?_ _ | refine blk_drew ?_ | refine blk_alloc ?_ _)); refine blk_put (cs := #[.slice Ao31 x625000_1.length co31, .slice Ao32 x625001_1.length co32]) ?_ 0 _ rfl; (with_reducible repeat (first | refine blk_drewN ?_ _ | refine blk_drew ?_ | refine blk_alloc ?_ _)); exact BK624.out⟩, ⟨bP HB⟩⟩
    ·rw [if_neg c17] at H
     have c17b0 : decide (t632 < 0) = false := decide_eq_false c17
     clear c17
     have H' := Aside0.mk H
     clear H
     have hnb36 := NB616_617.out
     have hnc36 := NB617_616.out
     have hnb37 := NB616_624.out
     have hnc37 := NB624_616.out
     have hcz38_0 := zc0 BK616
     have hcz38_1 := zc1 BK616
     have hfz38_0 := blk_frozen BK616.out 0
     have hfz38_1 := blk_frozen BK616.out 1
     go_wp2_with (first | ((with_reducible refine gate_callee (f := 59) rfl ?_); refine gL (some 17) Try.func59 #[.agg #[.slice A0_0 l0_0.length c0_0, .slice A0_1 l0_1.length c0_1], .int .i64 x4_1] ?_; (with_reducible refine (spec_l2Form.calls k1 _ _ l0_0 _ _ l0_1 x4_1 t625 t628 _ ?side1 ?side2 ?side3 ?side4 A15.out).mono ?_); (case side1 => exact cB HR0_0 HB); (case side2 => exact HC0_0.out); (case side3 => exact cB HR0_1 HB); (case side4 => exact HC0_1.out); rintro e w39 ⟨v626, v629, rfl, ho0, ho1, hb⟩; refine ⟨_, rfl, ?_⟩; have HO627 := Aside0.mk (Kd.R_lower (Kd.R_new' (Kd.R_new' ho0 (Kd.R_lt (rP HO_625000))) (Kd.R_lt (rP HO_625001))) (below_size (bP HB))); have HO630 := Aside0.mk (Kd.R_lower (Kd.R_new' (Kd.R_new' ho1 (Kd.R_lt (rP HO_625000))) (Kd.R_lt (rP HO_625001))) (below_size (bP HB))); replace HO_625000 := Aside0.mk (Kd.R_mono (Kd.R_told (Kd.R_told (Kd.R_old (rP HO_625000) hb) (Kd.R_base ho0)) (Kd.R_base ho1)) (fun _ h_ => h_.1)); replace HO_625001 := Aside0.mk (Kd.R_mono (Kd.R_told (Kd.R_told (Kd.R_old (rP HO_625001) hb) (Kd.R_base ho0)) (Kd.R_base ho1)) (fun _ h_ => h_.1)); replace BK616 := kB BK616 hb; replace BK617 := kB BK617 hb; replace BK624 := kB BK624 hb; replace HB := bS HB hb; (try clear hb); (try clear hb2); (try clear hk); (try clear hi); (try clear ho0); (try clear ho1)) | ((with_reducible refine gate_dst (N := 5) rfl ?_); refine bE 5 #[.slice none 0 0, .slice none 0 0] 40 ?_; intro gb631 hg w40 hbox hb; replace HO_625000 := rB HO_625000 hb; replace HO_625001 := rB HO_625001 hb; replace HO627 := rB HO627 hb; replace HO630 := rB HO630 hb; have BK631 := Aside0.mk (hbox); have GW631 := gS HB hg; have GE631 := gS HB hg; replace HB := bS HB hb; have NB616_631 := nL BK616 hg; have NB631_616 := nG BK616 hg; replace BK616 := kB BK616 hb; have NB617_631 := nL BK617 hg; have NB631_617 := nG BK617 hg; replace BK617 := kB BK617 hb; have NB624_631 := nL BK624 hg; have NB631_624 := nG BK624 hg; replace BK624 := kB BK624 hb; clear hb hbox hg; obtain ⟨Ao41, co41, eo41⟩ := Kd.R_slice HO627.out; subst eo41; have hnb42 := NB631_616.out; have hnc42 := NB616_631.out; have hnb43 := NB631_617.out; have hnc43 := NB617_631.out; have hnb44 := NB631_624.out; have hnc44 := NB624_631.out; have hcz45_0 := zc0 BK631; have hcz45_1 := zc1 BK631; have hfz45_0 := blk_frozen BK631.out 0; have hfz45_1 := blk_frozen BK631.out 1; obtain ⟨Ao46, co46, eo46⟩ := Kd.R_slice HO630.out; subst eo46; have hnb47 := NB624_617.out; have hnc47 := NB617_624.out; have hcz48_0 := zc0 BK624; have hcz48_1 := zc1 BK624; have hfz48_0 := blk_frozen BK624.out 0; have hfz48_1 := blk_frozen BK624.out 1; obtain ⟨Ao49, co49, eo49⟩ := Kd.R_slice HO_625000.out; subst eo49; obtain ⟨Ao50, co50, eo50⟩ := Kd.R_slice HO_625001.out; subst eo50) | ((with_reducible refine gate_callee (f := 60) rfl ?_); refine gL (some 20) Try.func60 #[.agg #[.slice Ao41 t625.length co41, .slice Ao46 t628.length co46], .agg #[.slice Ao49 x625000_1.length co49, .slice Ao50 x625001_1.length co50]] ?_; (with_reducible refine (spec_l2Before.calls k1 _ _ t625 _ _ t628 _ _ x625000_1 _ _ x625001_1 t632 _ ?side1 ?side2 ?side3 ?side4 ?side5 ?side6 ?side7 ?side8 A16.out).mono ?_); (case side1 => refine (Kd.R_reads' (e := 3) (base := w.heap.size) (ok := fun k_ => ((some k_ ≠ (.slice Ao46 t628.length co46 : Value).ownBlock ∧ some k_ ≠ (.slice Ao49 x625000_1.length co49 : Value).ownBlock) ∧ some k_ ≠ (.slice Ao50 x625001_1.length co50 : Value).ownBlock)) (n := t625.length) (c := co41) ?_).2.2; exact (rT (Kd.R_mono (Kd.R_far (p := ⟨gb631, 1, none⟩) (Kd.R_far (p := ⟨gb631, 0, none⟩) (Kd.R_types HO627.out BK631.out (by decide)) (fun _ hk => hk.2) (.slice Ao41 t625.length co41)) (fun _ hk => hk.2) (.slice Ao46 t628.length co46)) (fun _ h_ => h_.1)))); (case side2 => exact (Kd.R_reads' HO627.out).2.1); (case side3 => refine (Kd.R_reads' (e := 3) (base := w.heap.size) (ok := fun k_ => ((some k_ ≠ (.slice Ao41 t625.length co41 : Value).ownBlock ∧ some k_ ≠ (.slice Ao49 x625000_1.length co49 : Value).ownBlock) ∧ some k_ ≠ (.slice Ao50 x625001_1.length co50 : Value).ownBlock)) (n := t628.length) (c := co46) ?_).2.2; exact (rT (Kd.R_mono (Kd.R_far (p := ⟨gb631, 1, none⟩) (Kd.R_far (p := ⟨gb631, 0, none⟩) (Kd.R_types HO630.out BK631.out (by decide)) (fun _ hk => hk.2) (.slice Ao41 t625.length co41)) (fun _ hk => hk.2) (.slice Ao46 t628.length co46)) (fun _ h_ => h_.1)))); (case side4 => exact (Kd.R_reads' HO630.out).2.1); (case side5 => refine (Kd.R_reads' (e := 3) (base := w.heap.size) (ok := fun k_ => ((some k_ ≠ (.slice Ao50 x625001_1.length co50 : Value).ownBlock ∧ some k_ ≠ (.slice Ao41 t625.length co41 : Value).ownBlock) ∧ some k_ ≠ (.slice Ao46 t628.length co46 : Value).ownBlock)) (n := x625000_1.length) (c := co49) ?_).2.2; exact (rT (Kd.R_mono (Kd.R_far (p := ⟨gb631, 1, none⟩) (Kd.R_far (p := ⟨gb631, 0, none⟩) (Kd.R_types HO_625000.out BK631.out (by decide)) (fun _ hk => hk.2) (.slice Ao41 t625.length co41)) (fun _ hk => hk.2) (.slice Ao46 t628.length co46)) (fun _ h_ => h_.1)))); (case side6 => exact (Kd.R_reads' HO_625000.out).2.1); (case side7 => refine (Kd.R_reads' (e := 3) (base := w.heap.size) (ok := fun k_ => ((some k_ ≠ (.slice Ao49 x625000_1.length co49 : Value).ownBlock ∧ some k_ ≠ (.slice Ao41 t625.length co41 : Value).ownBlock) ∧ some k_ ≠ (.slice Ao46 t628.length co46 : Value).ownBlock)) (n := x625001_1.length) (c := co50) ?_).2.2; exact (rT (Kd.R_mono (Kd.R_far (p := ⟨gb631, 1, none⟩) (Kd.R_far (p := ⟨gb631, 0, none⟩) (Kd.R_types HO_625001.out BK631.out (by decide)) (fun _ hk => hk.2) (.slice Ao41 t625.length co41)) (fun _ hk => hk.2) (.slice Ao46 t628.length co46)) (fun _ h_ => h_.1)))); (case side8 => exact (Kd.R_reads' HO_625001.out).2.1); rintro e w51 ⟨rfl, hb⟩; refine ⟨_, rfl, ?_⟩; replace HO_625000 := Aside0.mk (Kd.R_below (rT (Kd.R_mono (Kd.R_far (p := ⟨gb631, 1, none⟩) (Kd.R_far (p := ⟨gb631, 0, none⟩) (Kd.R_types HO_625000.out BK631.out (by decide)) (fun _ hk => hk.2) (.slice Ao41 t625.length co41)) (fun _ hk => hk.2) (.slice Ao46 t628.length co46)) (fun _ h_ => h_.1))) hb); replace HO_625001 := Aside0.mk (Kd.R_below (rT (Kd.R_mono (Kd.R_far (p := ⟨gb631, 1, none⟩) (Kd.R_far (p := ⟨gb631, 0, none⟩) (Kd.R_types HO_625001.out BK631.out (by decide)) (fun _ hk => hk.2) (.slice Ao41 t625.length co41)) (fun _ hk => hk.2) (.slice Ao46 t628.length co46)) (fun _ h_ => h_.1))) hb); replace HO627 := Aside0.mk (Kd.R_below (rT (Kd.R_mono (Kd.R_far (p := ⟨gb631, 1, none⟩) (Kd.R_far (p := ⟨gb631, 0, none⟩) (Kd.R_types HO627.out BK631.out (by decide)) (fun _ hk => hk.2) (.slice Ao41 t625.length co41)) (fun _ hk => hk.2) (.slice Ao46 t628.length co46)) (fun _ h_ => h_.1))) hb); replace HO630 := Aside0.mk (Kd.R_below (rT (Kd.R_mono (Kd.R_far (p := ⟨gb631, 1, none⟩) (Kd.R_far (p := ⟨gb631, 0, none⟩) (Kd.R_types HO630.out BK631.out (by decide)) (fun _ hk => hk.2) (.slice Ao41 t625.length co41)) (fun _ hk => hk.2) (.slice Ao46 t628.length co46)) (fun _ h_ => h_.1))) hb); replace BK616 := kG BK616 hb; replace BK617 := kG BK617 hb; replace BK624 := kG BK624 hb; replace BK631 := Aside0.mk (blk_below (g := gb631) (o := .cells #[.slice Ao41 t625.length co41, .slice Ao46 t628.length co46] 40 (0, 0)) (by (with_reducible repeat (first | refine blk_drewN ?_ _ | refine blk_drew ?_ | refine blk_alloc ?_ _)); refine blk_put (cs := #[.slice Ao41 t625.length co41, .slice none 0 0]) ?_ 1 _ rfl; (with_reducible repeat (first | refine blk_drewN ?_ _ | refine blk_drew ?_ | refine blk_alloc ?_ _)); refine blk_put (cs := #[.slice none 0 0, .slice none 0 0]) ?_ 0 _ rfl; (with_reducible repeat (first | refine blk_drewN ?_ _ | refine blk_drew ?_ | refine blk_alloc ?_ _)); exact BK631.out) hb); replace HB := bS HB hb; (try clear hb); (try clear hb2); (try clear hk); (try clear hi)))
     go_roundg k1
     case measure => have := HK1.out; omega
     case rel => exact ⟨(wrap64 (x4_1 + 1)), (x625000_1), (x625001_1), (.slice Ao49 x625000_1.length co49), (.slice Ao50 x625001_1.length co50), eS, H', ⟨by have := HK1.out; omega⟩, ⟨by (with_reducible repeat (first | apply Kd.R_alloc | apply Kd.R_drewN | apply Kd.R_drew)); exact Kd.R_mono HO_625000.out (fun _ hk => hk.1.1)⟩, ⟨by (with_reducible repeat (first | apply Kd.R_alloc | apply Kd.R_drewN | apply Kd.R_drew)); exact Kd.R_mono HO_625001.out (fun _ hk => hk.1.1)⟩, ⟨kP BK616⟩, ⟨kP BK617⟩, ⟨kP BK624⟩, ⟨bP HB⟩⟩
   ·rw [if_neg c14] at H
    have c14b0 : decide (x4_1 < (l0_0.length : Int)) = false := decide_eq_false c14
    clear c14
    simp only [Option.some.injEq, Prod.mk.injEq] at H
    obtain ⟨rfl, rfl⟩ := H
    have hnb52 := NB616_617.out
    have hnc52 := NB617_616.out
    have hnb53 := NB616_624.out
    have hnc53 := NB624_616.out
    have hcz54_0 := zc0 BK616
    have hcz54_1 := zc1 BK616
    have hfz54_0 := blk_frozen BK616.out 0
    have hfz54_1 := blk_frozen BK616.out 1
    have hnb55 := NB624_617.out
    have hnc55 := NB617_624.out
    have hcz56_0 := zc0 BK624
    have hcz56_1 := zc1 BK624
    have hfz56_0 := blk_frozen BK624.out 0
    have hfz56_1 := blk_frozen BK624.out 1
    obtain ⟨Ao57, co57, eo57⟩ := Kd.R_slice HO_625000.out
    subst eo57
    have hcz58_0 := zc0 BK617
    have hcz58_1 := zc1 BK617
    have hfz58_0 := blk_frozen BK617.out 0
    have hfz58_1 := blk_frozen BK617.out 1
    obtain ⟨Ao59, co59, eo59⟩ := Kd.R_slice HO_625001.out
    subst eo59
    go_wp2
    refine bodyPost_ret (results_cell_row rfl _ _ gb617 40 #[.slice Ao57 x625000_1.length co57, .slice Ao59 x625001_1.length co59] (0, 0) _ rfl (by (with_reducible repeat (first | refine blk_drewN ?_ _ | refine blk_drew ?_ | refine blk_alloc ?_ _)); refine blk_put (cs := #[.slice Ao57 x625000_1.length co57, .slice none 0 0]) ?_ 1 _ rfl; (with_reducible repeat (first | refine blk_drewN ?_ _ | refine blk_drew ?_ | refine blk_alloc ?_ _)); refine blk_put (cs := #[.slice none 0 0, .slice none 0 0]) ?_ 0 _ rfl; (with_reducible repeat (first | refine blk_drewN ?_ _ | refine blk_drew ?_ | refine blk_alloc ?_ _)); exact BK617.out) Try.underlying40 rfl (by kernel_rfl)) rfl ?_
    exact ⟨_, _, eR, by (with_reducible repeat (first | apply Kd.R_alloc | apply Kd.R_drewN | apply Kd.R_drew)); exact Kd.R_mono (Kd.R_far (p := ⟨gb617, 1, none⟩) (Kd.R_far (p := ⟨gb617, 0, none⟩) (Kd.R_types HO_625000.out BK617.out (by decide)) (fun _ hk => hk.2) (.slice Ao57 x625000_1.length co57)) (fun _ hk => hk.2) (.slice Ao59 x625001_1.length co59)) (fun _ hk => hk.1), by (with_reducible repeat (first | apply Kd.R_alloc | apply Kd.R_drewN | apply Kd.R_drew)); exact Kd.R_mono (Kd.R_far (p := ⟨gb617, 1, none⟩) (Kd.R_far (p := ⟨gb617, 0, none⟩) (Kd.R_types HO_625001.out BK617.out (by decide)) (fun _ hk => hk.2) (.slice Ao57 x625000_1.length co57)) (fun _ hk => hk.2) (.slice Ao59 x625001_1.length co59)) (fun _ hk => hk.1), bP HB⟩

/-! ### spec_MapLeast: function 28 -/
def spec_MapLeast.f (k : Nat) (l0_0 : List Int) (l0_1 : List Int) : Option (List Int × List Int × Bool) := (spec_MapValid.f k l0_0 l0_1).bind fun t635 => (if t635 = true then ((spec_l2Least.f k l0_0 l0_1).bind fun bt636 => (some (bt636.1, bt636.2, true))) else (some (([] : List Int), ([] : List Int), false)))
theorem spec_MapLeast.mono : ∀ a0 a1 k, LeO (spec_MapLeast.f k a0 a1) (spec_MapLeast.f (k + 1) a0 a1) := by
 intro a0 a1 k
 unfold spec_MapLeast.f
 repeat' first
  | (with_reducible exact spec_MapValid.mono _ _ _)
  | (with_reducible exact spec_l2Least.mono _ _ _)
  | (with_reducible exact LeO.refl _)
  | (with_reducible exact LeO.none _)
  | (with_reducible refine LeO.ite ?_ ?_)
  | (with_reducible refine LeO.bind ?_ (fun _ => ?_))
  | exact spec_MapValid.mono _ _ _
  | exact spec_l2Least.mono _ _ _
  | exact LeO.none _
  | refine LeO.ite ?_ ?_
  | refine LeO.bind ?_ (fun _ => ?_)
set_option maxHeartbeats 8000000 in
set_option maxRecDepth 100000 in
theorem spec_MapLeast.calls (k : Nat) (A0_0 : Option Addr) (c0_0 : Nat) (l0_0 : List Int) (A0_1 : Option Addr) (c0_1 : Nat) (l0_1 : List Int) (r1 : List Int) (r2 : List Int) (r3 : Bool) (w : World) (hr0_0 : Kd.C (Kd.int .i64) w A0_0 l0_0.length l0_0) (hc0_0 : l0_0.length ≤ c0_0) (hr0_1 : Kd.C (Kd.int .i64) w A0_1 l0_1.length l0_1) (hc0_1 : l0_1.length ≤ c0_1) (h : spec_MapLeast.f k l0_0 l0_1 = some (r1, r2, r3)) :
 Calls Try.prog 28 #[.agg #[.slice A0_0 l0_0.length c0_0, .slice A0_1 l0_1.length c0_1]] w fun e w' => ∃ v0_ v1_ : Value, e = .returned (.tuple #[.agg #[v0_, v1_], .bool r3]) ∧ Kd.R (Kd.int .i64) 3 w' w.heap.size (fun k_ => some k_ ≠ (v1_ : Value).ownBlock) v0_ r1 ∧ Kd.R (Kd.int .i64) 3 w' w.heap.size (fun k_ => some k_ ≠ (v0_ : Value).ownBlock) v1_ r2 ∧ Below w.heap.size w w' := by
 have hu40 := Try.underlying40
 have HR0_0 := Aside0.mk hr0_0
 have HC0_0 := Aside0.mk hc0_0
 clear hr0_0 hc0_0
 have HR0_1 := Aside0.mk hr0_1
 have HC0_1 := Aside0.mk hc0_1
 clear hr0_1 hc0_1
 have HB := Aside0.mk (Below.refl w.heap.size w)
 have H : ((spec_MapValid.f k l0_0 l0_1).bind fun t635 => (if t635 = true then ((spec_l2Least.f k l0_0 l0_1).bind fun bt636 => (some (bt636.1, bt636.2, true))) else (some (([] : List Int), ([] : List Int), false)))) = some (r1, r2, r3) := h
 clear h
 replace H := Option.bind_eq_some_iff.mp H
 obtain ⟨t635, A20, H⟩ := H
 replace H : (if t635 = true then ((spec_l2Least.f k l0_0 l0_1).bind fun bt636 => (some (bt636.1, bt636.2, true))) else (some (([] : List Int), ([] : List Int), false))) = some (r1, r2, r3) := H
 have A2 := Aside0.mk A20
 clear A20
 by_cases c3 : t635 = true
 ·subst c3
  have H1 : ((spec_l2Least.f k l0_0 l0_1).bind fun bt636 => (some (bt636.1, bt636.2, true))) = some (r1, r2, r3) := by rw [if_pos rfl] at H; exact H
  clear H
  have H := H1
  clear H1
  replace H := Option.bind_eq_some_iff.mp H
  obtain ⟨⟨t636, t639⟩, A40, H⟩ := H
  replace H : (some (t636, t639, true)) = some (r1, r2, r3) := H
  have A4 := Aside0.mk A40
  clear A40
  simp only [Option.some.injEq, Prod.mk.injEq] at H
  obtain ⟨rfl, rfl, rfl⟩ := H
  go_enter Try.func28, Try.ntmps28
  go_wp2_with (first | ((with_reducible refine gate_dst (N := 1) rfl ?_); refine bE 1 #[.slice A0_0 l0_0.length c0_0, .slice A0_1 l0_1.length c0_1] 40 ?_; intro gb633 hg w5 hbox hb; have BK633 := Aside0.mk (hbox); have GW633 := gS HB hg; have GE633 := gS HB hg; replace HB := bS HB hb; clear hb hbox hg) | ((with_reducible refine gate_dst (N := 2) rfl ?_); refine bE 2 #[.slice none 0 0, .slice none 0 0] 40 ?_; intro gb634 hg w6 hbox hb; have BK634 := Aside0.mk (hbox); have GW634 := gS HB hg; have GE634 := gS HB hg; replace HB := bS HB hb; have NB633_634 := nL BK633 hg; have NB634_633 := nG BK633 hg; replace BK633 := kB BK633 hb; clear hb hbox hg; have hnb7 := NB633_634.out; have hnc7 := NB634_633.out; have hcz8_0 := zc0 BK633; have hcz8_1 := zc1 BK633; have hfz8_0 := blk_frozen BK633.out 0; have hfz8_1 := blk_frozen BK633.out 1) | ((with_reducible refine gate_callee (f := 43) rfl ?_); refine gL (some 5) Try.func43 #[.agg #[.slice A0_0 l0_0.length c0_0, .slice A0_1 l0_1.length c0_1]] ?_; (with_reducible refine (spec_MapValid.calls k _ _ l0_0 _ _ l0_1 true _ ?side1 ?side2 ?side3 ?side4 A2.out).mono ?_); (case side1 => exact cB HR0_0 HB); (case side2 => exact HC0_0.out); (case side3 => exact cB HR0_1 HB); (case side4 => exact HC0_1.out); rintro e w9 ⟨rfl, hb⟩; refine ⟨_, rfl, ?_⟩; replace BK633 := kB BK633 hb; replace BK634 := kB BK634 hb; replace HB := bS HB hb; (try clear hb); (try clear hb2); (try clear hk); (try clear hi); have hcz10_0 := zc0 BK633; have hcz10_1 := zc1 BK633; have hfz10_0 := blk_frozen BK633.out 0; have hfz10_1 := blk_frozen BK633.out 1) | ((with_reducible refine gate_callee (f := 47) rfl ?_); refine gL (some 9) Try.func47 #[.agg #[.slice A0_0 l0_0.length c0_0, .slice A0_1 l0_1.length c0_1]] ?_; (with_reducible refine (spec_l2Least.calls k _ _ l0_0 _ _ l0_1 t636 t639 _ ?side1 ?side2 ?side3 ?side4 A4.out).mono ?_); (case side1 => exact cB HR0_0 HB); (case side2 => exact HC0_0.out); (case side3 => exact cB HR0_1 HB); (case side4 => exact HC0_1.out); rintro e w11 ⟨v637, v640, rfl, ho0, ho1, hb⟩; refine ⟨_, rfl, ?_⟩; have HO638 := rL ho0 HB; have HO641 := rL ho1 HB; replace BK633 := kB BK633 hb; replace BK634 := kB BK634 hb; replace HB := bS HB hb; (try clear hb); (try clear hb2); (try clear hk); (try clear hi); (try clear ho0); (try clear ho1); obtain ⟨Ao12, co12, eo12⟩ := Kd.R_slice HO638.out; subst eo12; have hcz13_0 := zc0 BK634; have hcz13_1 := zc1 BK634; have hfz13_0 := blk_frozen BK634.out 0; have hfz13_1 := blk_frozen BK634.out 1; obtain ⟨Ao14, co14, eo14⟩ := Kd.R_slice HO641.out; subst eo14))
  refine bodyPost_ret (results_ct rfl _ _ gb634 40 #[.slice Ao12 t636.length co12, .slice Ao14 t639.length co14] (0, 0) _ rfl (by (with_reducible repeat (first | refine blk_drewN ?_ _ | refine blk_drew ?_ | refine blk_alloc ?_ _)); refine blk_put (cs := #[.slice Ao12 t636.length co12, .slice none 0 0]) ?_ 1 _ rfl; (with_reducible repeat (first | refine blk_drewN ?_ _ | refine blk_drew ?_ | refine blk_alloc ?_ _)); refine blk_put (cs := #[.slice none 0 0, .slice none 0 0]) ?_ 0 _ rfl; (with_reducible repeat (first | refine blk_drewN ?_ _ | refine blk_drew ?_ | refine blk_alloc ?_ _)); exact BK634.out) Try.underlying40 rfl (by kernel_rfl)) rfl ?_
  exact ⟨_, _, eR, by (with_reducible repeat (first | apply Kd.R_alloc | apply Kd.R_drewN | apply Kd.R_drew)); exact Kd.R_mono (Kd.R_far (p := ⟨gb634, 1, none⟩) (Kd.R_far (p := ⟨gb634, 0, none⟩) (Kd.R_types HO638.out BK634.out (by decide)) (fun _ hk => hk.2) (.slice Ao12 t636.length co12)) (fun _ hk => hk.2) (.slice Ao14 t639.length co14)) (fun _ hk => hk.1), by (with_reducible repeat (first | apply Kd.R_alloc | apply Kd.R_drewN | apply Kd.R_drew)); exact Kd.R_mono (Kd.R_far (p := ⟨gb634, 1, none⟩) (Kd.R_far (p := ⟨gb634, 0, none⟩) (Kd.R_types HO641.out BK634.out (by decide)) (fun _ hk => hk.2) (.slice Ao12 t636.length co12)) (fun _ hk => hk.2) (.slice Ao14 t639.length co14)) (fun _ hk => hk.1), bP HB⟩
 ·replace c3 := Bool.eq_false_iff.mpr c3
  subst c3
  have H1 : (some (([] : List Int), ([] : List Int), false)) = some (r1, r2, r3) := by rw [if_neg (show ¬ (false = true) by decide)] at H; exact H
  clear H
  have H := H1
  clear H1
  simp only [Option.some.injEq, Prod.mk.injEq] at H
  obtain ⟨rfl, rfl, rfl⟩ := H
  go_enter Try.func28, Try.ntmps28
  go_wp2_with (first | ((with_reducible refine gate_dst (N := 1) rfl ?_); refine bE 1 #[.slice A0_0 l0_0.length c0_0, .slice A0_1 l0_1.length c0_1] 40 ?_; intro gb633 hg w15 hbox hb; have BK633 := Aside0.mk (hbox); have GW633 := gS HB hg; have GE633 := gS HB hg; replace HB := bS HB hb; clear hb hbox hg) | ((with_reducible refine gate_dst (N := 2) rfl ?_); refine bE 2 #[.slice none 0 0, .slice none 0 0] 40 ?_; intro gb634 hg w16 hbox hb; have BK634 := Aside0.mk (hbox); have GW634 := gS HB hg; have GE634 := gS HB hg; replace HB := bS HB hb; have NB633_634 := nL BK633 hg; have NB634_633 := nG BK633 hg; replace BK633 := kB BK633 hb; clear hb hbox hg; have hnb17 := NB633_634.out; have hnc17 := NB634_633.out; have hcz18_0 := zc0 BK633; have hcz18_1 := zc1 BK633; have hfz18_0 := blk_frozen BK633.out 0; have hfz18_1 := blk_frozen BK633.out 1) | ((with_reducible refine gate_callee (f := 43) rfl ?_); refine gL (some 5) Try.func43 #[.agg #[.slice A0_0 l0_0.length c0_0, .slice A0_1 l0_1.length c0_1]] ?_; (with_reducible refine (spec_MapValid.calls k _ _ l0_0 _ _ l0_1 false _ ?side1 ?side2 ?side3 ?side4 A2.out).mono ?_); (case side1 => exact cB HR0_0 HB); (case side2 => exact HC0_0.out); (case side3 => exact cB HR0_1 HB); (case side4 => exact HC0_1.out); rintro e w19 ⟨rfl, hb⟩; refine ⟨_, rfl, ?_⟩; replace BK633 := kB BK633 hb; replace BK634 := kB BK634 hb; replace HB := bS HB hb; (try clear hb); (try clear hb2); (try clear hk); (try clear hi); have hcz20_0 := zc0 BK634; have hcz20_1 := zc1 BK634; have hfz20_0 := blk_frozen BK634.out 0; have hfz20_1 := blk_frozen BK634.out 1))
  refine bodyPost_ret (results_ct rfl _ _ gb634 40 #[.slice none 0 0, .slice none 0 0] (0, 0) _ rfl (by (with_reducible repeat (first | refine blk_drewN ?_ _ | refine blk_drew ?_ | refine blk_alloc ?_ _)); refine blk_put (cs := #[.slice none 0 0, .slice none 0 0]) ?_ 1 _ rfl; (with_reducible repeat (first | refine blk_drewN ?_ _ | refine blk_drew ?_ | refine blk_alloc ?_ _)); refine blk_put (cs := #[.slice none 0 0, .slice none 0 0]) ?_ 0 _ rfl; (with_reducible repeat (first | refine blk_drewN ?_ _ | refine blk_drew ?_ | refine blk_alloc ?_ _)); exact BK634.out) Try.underlying40 rfl (by kernel_rfl)) rfl ?_
  exact ⟨_, _, eR, by first | exact Kd.R_nil _ _ _ _ _ | exact Kd.N_nil _ _ _ _ _ | exact Kd.V_nil _ _ _ _ _ | exact Kd.Q_nil _ _ _ _ _ | exact Kd.S_nil _ _ _ _ _, by first | exact Kd.R_nil _ _ _ _ _ | exact Kd.N_nil _ _ _ _ _ | exact Kd.V_nil _ _ _ _ _ | exact Kd.Q_nil _ _ _ _ _ | exact Kd.S_nil _ _ _ _ _, bP HB⟩

end Go.Proofs.Ytajmkjeiegdpcaa.F
