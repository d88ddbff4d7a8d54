/- Contracts: what these Go functions return. -/
import Derived.Test.YtihabnfccgjfbaaF0
namespace Go.Proofs.Ytihabnfccgjfbaa.F
open Go.RowKit Go.Proofs.YtihabnfccgjfbaaW.PrintWords Go.Proofs.YtihabnfccgjfbaaW.PrintLast Go.Proofs.YtihabnfccgjfbaaW.PrintMore
attribute [local go_sem] max2_int min2_int max_two min_two max_three min_three max_four min_four
set_option linter.unusedVariables false
set_option linter.unusedSimpArgs false

/-! ### impl_distancesFrom: function 45 -/
/-- the closure: as long as the point has no number it gets one, and the next one around its vertex is looked at -/
def impl_distancesFrom.at_ (n : Int) (t : List Int) : Nat → List Int → Int → Option (List Int)
 | 0, _, _ => none
 | k + 1, x, d => if 0 ≤ d then (if d < (x.length : Int) then (if rd x d < 0 then (if d < (t.length : Int) then impl_distancesFrom.at_ n t k (x.set d.toNat n) (rd t d) else none) else some x) else none) else none
def impl_distancesFrom.l0 : Nat → List Int → Int → Option (List Int)
 | 0, _, _ => none
 | k + 1, x, i => if i < (x.length : Int) then (if 0 ≤ i then impl_distancesFrom.l0 k (x.set i.toNat (-1)) (wrap64 (i + 1)) else none) else some x
mutual
def impl_distancesFrom.l1 : Nat → List Int → List Int → List Int → Int → Option (List Int)
 | 0, _, _, _, _ => none
 | k + 1, t, s, x, n => if n < (t.length : Int) then impl_distancesFrom.l2 k t s x n 0 else some x
def impl_distancesFrom.l2 : Nat → List Int → List Int → List Int → Int → Int → Option (List Int)
 | 0, _, _, _, _, _ => none
 | k + 1, t, s, x, n, i => if i < (s.length : Int) then (if 0 ≤ i then (if i < (x.length : Int) then (if rd x i = n then ((impl_distancesFrom.at_ (wrap64 (n + 1)) t k x (rd s i)).bind fun y => impl_distancesFrom.l2 k t s y n (wrap64 (i + 1))) else impl_distancesFrom.l2 k t s x n (wrap64 (i + 1))) else none) else none) else impl_distancesFrom.l1 k t s x (wrap64 (n + 1))
end
def impl_distancesFrom.f (k : Nat) (l0_0 : List Int) (l0_1 : List Int) (a1 : Int) : Option (List Int) := if l0_0.length ≤ 35184372088832 then ((impl_distancesFrom.l0 k (List.replicate l0_0.length 0) 0).bind fun x => (impl_distancesFrom.at_ 0 l0_0 k x a1).bind fun y => impl_distancesFrom.l1 k l0_0 l0_1 y 0) else none
theorem impl_distancesFrom.at_mono (n : Int) (t : List Int) : ∀ k x d, LeO (impl_distancesFrom.at_ n t k x d) (impl_distancesFrom.at_ n t (k + 1) x d) := by
 intro k
 induction k with
 | zero => intro x d r h; simp [impl_distancesFrom.at_] at h
 | succ k ih =>
  intro x d r h
  rw [impl_distancesFrom.at_] at h ⊢
  split at h
  ·rw [if_pos ‹_›]
   split at h
   ·rw [if_pos ‹_›]
    split at h
    ·rw [if_pos ‹_›]
     split at h
     ·rw [if_pos ‹_›]
      exact ih _ _ r h
     ·exact absurd h (by simp)
    ·rw [if_neg ‹_›]; exact h
   ·exact absurd h (by simp)
  ·exact absurd h (by simp)
theorem impl_distancesFrom.l0_mono : ∀ k x i, LeO (impl_distancesFrom.l0 k x i) (impl_distancesFrom.l0 (k + 1) x i) := by
 intro k
 induction k with
 | zero => intro x d r h; simp [impl_distancesFrom.l0] at h
 | succ k ih =>
  intro x d r h
  rw [impl_distancesFrom.l0] at h ⊢
  split at h
  ·rw [if_pos ‹_›]
   split at h
   ·rw [if_pos ‹_›]
    exact ih _ _ r h
   ·exact absurd h (by simp)
  ·rw [if_neg ‹_›]; exact h
set_option maxHeartbeats 8000000 in
set_option maxRecDepth 100000 in
theorem impl_distancesFrom.at_calls (k : Nat) (gf gm : Nat) (A : Option Addr) (cf : Nat) (A0 : Option Addr) (c0 : Nat) (t : List Int) (v1 : Value) (x0 : List Int) (d0 n : Int) (r : List Int) (w w0 : World) (hB : Below w0.heap.size w0 w)
 (ht : Kd.C (Kd.int .i64) w0 A0 t.length t)
 (hm : w.heap[gm]? = some (.cells #[.slice A0 t.length c0, v1] 25 (0, 0)))
 (hf : w.heap[gf]? = some (.cells #[.slice A x0.length cf] 23 (0, 0)))
 (ho : Kd.R (Kd.int .i64) 3 w w0.heap.size (fun _ => True) (.slice A x0.length cf) x0)
 (h : impl_distancesFrom.at_ n t k x0 d0 = some r) :
 Calls Try.prog 67 #[.int .i64 d0, .int .i64 n, .pointer (some ⟨gf, 0, none⟩), .pointer (some ⟨gm, 0, none⟩)] w fun e w' => e = .returned (.tuple #[]) ∧ Below w0.heap.size w0 w' ∧ w'.heap[gm]? = some (.cells #[.slice A0 t.length c0, v1] 25 (0, 0)) ∧ w'.heap[gf]? = some (.cells #[.slice A x0.length cf] 23 (0, 0)) ∧ Kd.R (Kd.int .i64) 3 w' w0.heap.size (fun _ => True) (.slice A x0.length cf) r := by
 have HT := Aside0.mk ht
 have BM := Aside0.mk hm
 have BF := Aside0.mk hf
 have HO := Aside0.mk ho
 have HB := Aside0.mk hB
 have H' := Aside0.mk h
 clear ht hm hf ho hB h
 have hu40 := Try.underlying25
 go_enter Try.func67, Try.ntmps67
 go_wp2
 go_loopg [0] k (fun kq u0 w' => ∃ (x : List Int) (d : Int), u0 = .int .i64 d ∧ Aside0 (impl_distancesFrom.at_ n t kq x d = some r) ∧ Aside0 (kq ≤ k) ∧ Aside0 (Kd.R (Kd.int .i64) 3 w' w0.heap.size (fun _ => True) (.slice A x0.length cf) x) ∧ Aside0 (w'.heap[gm]? = some (.cells #[.slice A0 t.length c0, v1] 25 (0, 0))) ∧ Aside0 (w'.heap[gf]? = some (.cells #[.slice A x0.length cf] 23 (0, 0))) ∧ Aside0 (Below w0.heap.size w0 w'))
 case atStart => exact ⟨x0, d0, rfl, H', ⟨Nat.le_refl _⟩, HO, BM, BF, HB⟩
 case round =>
  clear H' HO BM BF HB
  obtain ⟨x, d, rfl, HA, HK, HO, BM, BF, HB⟩ := hrel
  have hl := (Kd.R_reads' HO.out).1
  rw [hl] at HO BF
  cases gk with
  | zero => exact absurd HA.out (by simp [impl_distancesFrom.at_])
  | succ k1 =>
   have H := HA.out
   clear HA
   simp only [impl_distancesFrom.at_] at H
   by_cases c1 : 0 ≤ d
   ·rw [if_pos c1] at H
    by_cases c2 : d < (x.length : Int)
    ·rw [if_pos c2] at H
     obtain ⟨go, co, eo, gb, gl, cl, HG⟩ := Kd.R_form HO.out (by omega)
     cases eo
     have GB := Aside0.mk gb
     have GG := Aside0.mk HG
     clear gb gl HG
     obtain ⟨hx_, hfz⟩ := Kd.R_celln 0 HO.out (d : Int) c1 c2
     have hx : wr.cell? ⟨go, d.toNat, none⟩ = some (.int .i64 (rd x d)) := hx_
     clear hx_
     have hcf : wr.cell? ⟨gf, 0, none⟩ = some (.slice (some ⟨go, 0, none⟩) x.length cf) := (blk_cell BF.out 0).trans rfl
     by_cases c3 : rd x d < 0
     ·rw [if_pos c3] at H
      have c3b : decide (rd x d < 0) = true := decide_eq_true c3
      clear c3
      by_cases c4 : d < (t.length : Int)
      ·rw [if_pos c4] at H
       obtain ⟨ad, e, hy⟩ := Kd.at_int HT.out d c1 c4
       cases e
       have HY := Aside0.mk hy
       clear hy
       have c1b := eq_true c1
       have c2b := eq_true c2
       have c4b := eq_true c4
       clear c1 c2 c4
       obtain ⟨y, hy⟩ : ∃ y_ : List Int, y_ = (x.set d.toNat n) := ⟨_, rfl⟩
       rw [← hy] at H
       have Ny := Aside0.mk hy
       clear hy
       have H' := Aside0.mk H
       clear H
       have HP := Kd.R_putg HO.out (d : Int) n
       go_wp2_with (first | ((with_reducible refine gate_store (t := 3) (p := 14) rfl ?_); refine store_event (t := 3) (p := 14) (v := ?vo_w15) (w1 := (wr.setCell ⟨go, (d : Int).toNat, none⟩ (.int .i64 n))) ?hg ?ho ?hn ?hr ?_; (case ho => rfl); (case hg => rfl); (case hn => rfl); (case hr => first | (go_simp; done) | (go_simp; rfl)); intro w15 hw; have hg : wr.grownBy w15 (some go) := (by rw [hw]; exact HP.2); have hp_ : Kd.R (Kd.int .i64) 3 w15 w0.heap.size (fun _ => True) (.slice (some ⟨go, 0, none⟩) x.length cf) y := (by rw [hw, Ny.out]; exact HP.1); clear HP; replace BM := Aside0.mk (blk_grown BM.out hg (Kd.R_ne HO.out BM.out (by decide))); replace BF := Aside0.mk (blk_grown BF.out hg (Kd.R_ne HO.out BF.out (by decide))); replace HO := Aside0.mk (hp_); replace HB := Aside0.mk ((by rw [hw]; exact below_set (HB.out) GB.out : Below w0.heap.size w0 w15)); clear hg hw hp_ hcf hx hfz; have hcm : w15.cell? ⟨gm, 0, none⟩ = some (.slice (some ad) t.length c0) := (blk_cell BM.out 0).trans rfl; have hy := (HB.out.cell (World.block_lt_of_cell? w0 _ HY.out)).trans HY.out))
       (try simp only [← hl])
       go_roundg k1
       case measure => have := HK.out; omega
       case rel => exact ⟨y, _, rfl, H', ⟨by have := HK.out; omega⟩, ⟨by (try simp only [hl]); exact rP HO⟩, ⟨by (try simp only [hl]); exact kP BM⟩, ⟨by (try simp only [hl]); exact kP BF⟩, ⟨bP HB⟩⟩
      ·rw [if_neg c4] at H
       exact absurd H (by simp)
     ·rw [if_neg c3] at H
      have c3b : decide (rd x d < 0) = false := decide_eq_false c3
      clear c3
      obtain rfl := Option.some.inj H
      go_wp2
      first | go_end0 | ((try simp only [Exit.inBlock, Exit.then]); refine bodyPost_ret (results_none rfl _ _ _) rfl ?_)
      exact ⟨eR, bP HB, by (try simp only [hl]); exact kP BM, by (try simp only [hl]); exact kP BF, by (try simp only [hl]); exact rP HO⟩
    ·rw [if_neg c2] at H
     exact absurd H (by simp)
   ·rw [if_neg c1] at H
    exact absurd H (by simp)
set_option maxHeartbeats 8000000 in
set_option maxRecDepth 100000 in
theorem impl_distancesFrom.calls (k : Nat) (A0_0 : Option Addr) (c0_0 : Nat) (l0_0 : List Int) (A0_1 : Option Addr) (c0_1 : Nat) (l0_1 : List Int) (a1 : Int) (r : List Int) (w : World) (hr0_0 : Kd.C (Kd.int .i64) w A0_0 l0_0.length l0_0) (hc0_0 : l0_0.length ≤ c0_0) (hr0_1 : Kd.C (Kd.int .i64) w A0_1 l0_1.length l0_1) (hc0_1 : l0_1.length ≤ c0_1) (h : impl_distancesFrom.f k l0_0 l0_1 a1 = some r) :
 Calls Try.prog 45 #[.agg #[.slice A0_0 l0_0.length c0_0, .slice A0_1 l0_1.length c0_1], .int .i64 a1] w fun e w' => ∃ v0_ : Value, e = .returned (v0_) ∧ Kd.R (Kd.int .i64) 3 w' w.heap.size (fun _ => True) v0_ r ∧ Below w.heap.size w w' := by
 have hu40 := Try.underlying25
 have hmf : ∀ (fn : Fn) (first cap : Array Value) (w : World), (Instr.makeFunc fn first cap).run Try.prog w = .ok (.func fn first cap) w := fun _ _ _ _ => rfl
 have HT := Aside0.mk hr0_0
 have HS := Aside0.mk hr0_1
 have HC := Aside0.mk hc0_0
 have HC1 := Aside0.mk hc0_1
 have HB := Aside0.mk (Below.refl w.heap.size w)
 clear hr0_0 hr0_1 hc0_0 hc0_1
 unfold impl_distancesFrom.f at h
 split at h
 ·rename_i c0
  obtain ⟨x1, H1, h2⟩ := Option.bind_eq_some_iff.mp h
  obtain ⟨y1, H2, H3⟩ := Option.bind_eq_some_iff.mp h2
  clear h h2
  obtain ⟨y, hy⟩ : ∃ y_ : List Int, y_ = List.replicate l0_0.length (0 : Int) := ⟨_, rfl⟩
  rw [← hy] at H1
  have hyl : y.length = l0_0.length := by rw [hy]; simp
  have Ny := Aside0.mk hy
  have HL := Aside0.mk hyl
  have G1 := Aside0.mk H1
  have G2 := Aside0.mk H2
  have G3 := Aside0.mk H3
  have C0 := Aside0.mk c0
  have c0b : 0 ≤ (l0_0.length : Int) := by omega
  clear hy hyl H1 H2 H3 c0
  go_enter Try.func45, Try.ntmps45
  go_wp2_with (first
   | ((with_reducible refine gate_dst (N := 2) rfl ?_); refine bE 2 #[.slice A0_0 l0_0.length c0_0, .slice A0_1 l0_1.length c0_1] 25 ?_; intro gm hg w5 hbox hb; have BM := Aside0.mk (hbox); replace HB := bS HB hb; clear hb hbox hg; have hcz0 := zc0 BM; have hcz1 := zc1 BM)
   | ((with_reducible refine gate_dst (N := 14) rfl ?_); refine Kd.R_make (Kd.int .i64) _ 3 rfl (N := 14) rfl 23 _ _ rfl (l0_0.length : Int) rfl rfl Try.underlying23 (.int .i64 0) 8 info3 rfl (by decide) (by omega) 0 (ok := fun _ => True) (okp := fun _ => True) rfl (fun _ hk => hk) trivial c0b (Nat.le_trans (Nat.mul_le_mul_right _ (show (l0_0.length : Int).toNat ≤ 35184372088832 from by have := C0.out; omega)) (by omega)) (Below.refl _ _) (Nat.le_refl _) ?_; intro v644 w7 ho8 hb hg_ hnew_; clear hg_ hnew_; simp only [Int.toNat_natCast] at ho8; rw [← Ny.out] at ho8; have HO := rL ho8 HB; replace BM := kB BM hb; replace HB := bS HB hb; clear hb ho8; obtain ⟨Ao, co, eo⟩ := Kd.R_slice HO.out; subst eo)
   | ((with_reducible refine gate_dst (N := 5) rfl ?_); refine bE 5 #[.slice none 0 0] 23 ?_; intro gf hg w9 hbox hb; have BF := Aside0.mk (hbox); have GF := gS HB hg; have NF : Aside0 (gm ≠ gf) := nL BM hg; replace HO := rB HO hb; replace BM := kB BM hb; replace HB := bS HB hb; clear hb hbox hg; have hcf := (blk_cell BF.out 0); have hff := blk_frozen BF.out 0)
   | ((with_reducible refine gate_store (t := 23) (p := 5) rfl ?_); refine store_event (t := 23) (p := 5) (v := ?vo_w10) (w1 := (w9.setCell ⟨gf, 0, none⟩ (.slice Ao y.length co))) ?hg ?ho ?hn ?hr ?_; (case ho => rfl); (case hg => rfl); (case hn => rfl); (case hr => first | (go_simp; done) | (go_simp; rfl)); intro w10 hw; replace HO := Aside0.mk (show Kd.R (Kd.int .i64) 3 w10 w.heap.size (fun _ => True) (.slice Ao y.length co) y from by rw [hw]; exact Kd.R_mono (rF gf 0 (rY HO BF (by decide)) _) (fun _ _ => trivial)); replace BM := Aside0.mk (show w10.heap[gm]? = some (.cells #[.slice A0_0 l0_0.length c0_0, .slice A0_1 l0_1.length c0_1] 25 (0, 0)) from by rw [hw]; exact blk_far BM.out NF.out _); replace HB := Aside0.mk ((by rw [hw]; exact below_set (HB.out) GF.out : Below w.heap.size w w10)); replace BF := Aside0.mk (show w10.heap[gf]? = some (.cells #[.slice Ao y.length co] 23 (0, 0)) from by rw [hw]; exact blk_put BF.out 0 _ rfl); clear hw hcf hff hcz0 hcz1; have hcf := blk_cell BF.out 0))
  go_loopg [17] k (fun kq v17 w' => ∃ (x : List Int) (i : Int), v17 = .int .i64 i ∧ Aside0 (impl_distancesFrom.l0 kq x i = some x1) ∧ Aside0 (kq ≤ k) ∧ Aside0 (Kd.R (Kd.int .i64) 3 w' w.heap.size (fun _ => True) (.slice Ao y.length co) x) ∧ Aside0 (w'.heap[gm]? = some (.cells #[.slice A0_0 l0_0.length c0_0, .slice A0_1 l0_1.length c0_1] 25 (0, 0))) ∧ Aside0 (w'.heap[gf]? = some (.cells #[.slice Ao y.length co] 23 (0, 0))) ∧ Aside0 (Below w.heap.size w w'))
  case atStart => exact ⟨y, 0, rfl, G1, ⟨Nat.le_refl _⟩, ⟨rP HO⟩, ⟨kP BM⟩, ⟨kP BF⟩, ⟨bP HB⟩⟩
  case round =>
   clear HO BM BF HB hcf
   obtain ⟨x, i, rfl, HA, HK, HO, BM, BF, HB⟩ := hrel
   have hl := (Kd.R_reads' HO.out).1
   rw [hl] at HO BF
   cases gk with
   | zero => exact absurd HA.out (by simp [impl_distancesFrom.l0])
   | succ k1 =>
    have H := HA.out
    clear HA
    simp only [impl_distancesFrom.l0] at H
    (try simp only [hl])
    by_cases c1 : i < (x.length : Int)
    ·rw [if_pos c1] at H
     by_cases c2 : 0 ≤ i
     ·rw [if_pos c2] at H
      obtain ⟨go, co', eo, gb, gl, cl, HG⟩ := Kd.R_form HO.out (by omega)
      cases eo
      have GB := Aside0.mk gb
      clear gb gl HG
      obtain ⟨hx_, hfz⟩ := Kd.R_celln 0 HO.out (i : Int) c2 c1
      have hcf : wr.cell? ⟨gf, 0, none⟩ = some (.slice (some ⟨go, 0, none⟩) x.length co) := (blk_cell BF.out 0).trans rfl
      have c1b : decide (i < (x.length : Int)) = true := decide_eq_true c1
      have c1c := eq_true c1
      have c2c := eq_true c2
      clear c1 c2
      obtain ⟨y2, hy2⟩ : ∃ y_ : List Int, y_ = (x.set i.toNat (-1)) := ⟨_, rfl⟩
      rw [← hy2] at H
      have Ny2 := Aside0.mk hy2
      clear hy2
      have H' := Aside0.mk H
      clear H
      have HP := Kd.R_putg HO.out (i : Int) (-1)
      go_wp2_with (first | ((with_reducible refine gate_store (t := 3) (p := 22) rfl ?_); refine store_event (t := 3) (p := 22) (v := ?vo_w15) (w1 := (wr.setCell ⟨go, (i : Int).toNat, none⟩ (.int .i64 (-1)))) ?hg ?ho ?hn ?hr ?_; (case ho => rfl); (case hg => rfl); (case hn => rfl); (case hr => first | (go_simp; done) | (go_simp; rfl)); intro w15 hw; have hg : wr.grownBy w15 (some go) := (by rw [hw]; exact HP.2); have hp_ : Kd.R (Kd.int .i64) 3 w15 w.heap.size (fun _ => True) (.slice (some ⟨go, 0, none⟩) x.length co) y2 := (by rw [hw, Ny2.out]; exact HP.1); clear HP; replace BM := Aside0.mk (blk_grown BM.out hg (Kd.R_ne HO.out BM.out (by decide))); replace BF := Aside0.mk (blk_grown BF.out hg (Kd.R_ne HO.out BF.out (by decide))); replace HO := Aside0.mk (hp_); replace HB := Aside0.mk ((by rw [hw]; exact below_set (HB.out) GB.out : Below w.heap.size w w15)); clear hg hw hp_ hcf hx_ hfz))
      (try simp only [← hl])
      go_roundg k1
      case measure => have := HK.out; omega
      case rel => exact ⟨y2, _, rfl, H', ⟨by have := HK.out; omega⟩, ⟨by (try simp only [hl]); exact rP HO⟩, ⟨by (try simp only [hl]); exact kP BM⟩, ⟨by (try simp only [hl]); exact kP BF⟩, ⟨bP HB⟩⟩
     ·rw [if_neg c2] at H
      exact absurd H (by simp)
    ·rw [if_neg c1] at H
     have c1b : decide (i < (x.length : Int)) = false := decide_eq_false c1
     clear c1
     obtain rfl := Option.some.inj H
     clear H
     go_wp2_with (first | (go_at_call 67; refine (impl_distancesFrom.at_calls k gf gm Ao co A0_0 c0_0 l0_0 (.slice A0_1 l0_1.length c0_1) x a1 0 y1 _ w (bP HB) HT.out (kP BM) (kP BF) (rP HO) G2.out).mono ?_; rintro e w2 ⟨rfl, hB2, hm2, hf2, ho2⟩; replace HB := Aside0.mk hB2; replace BM := Aside0.mk hm2; replace BF := Aside0.mk hf2; replace HO := Aside0.mk ho2; clear hB2 hm2 hf2 ho2; have hcz0 := zc0 BM; have hcz1 := zc1 BM))
     go_loopg [31] k (fun kq v31 w' => ∃ (x : List Int) (n : Int), v31 = .int .i64 n ∧ Aside0 (impl_distancesFrom.l1 kq l0_0 l0_1 x n = some r) ∧ Aside0 (kq ≤ k) ∧ Aside0 (Kd.R (Kd.int .i64) 3 w' w.heap.size (fun _ => True) (.slice Ao y.length co) x) ∧ Aside0 (w'.heap[gm]? = some (.cells #[.slice A0_0 l0_0.length c0_0, .slice A0_1 l0_1.length c0_1] 25 (0, 0))) ∧ Aside0 (w'.heap[gf]? = some (.cells #[.slice Ao y.length co] 23 (0, 0))) ∧ Aside0 (Below w.heap.size w w'))
     case atStart => exact ⟨y1, 0, rfl, G3, ⟨Nat.le_refl _⟩, ⟨by (try simp only [hl]); exact rP HO⟩, ⟨by (try simp only [hl]); exact kP BM⟩, ⟨by (try simp only [hl]); exact kP BF⟩, ⟨bP HB⟩⟩
     case round =>
      clear HO BM BF HB hcz0 hcz1 HK hl G2 c1b
      try clear x
      obtain ⟨x, n, rfl, HA, HK, HO, BM, BF, HB⟩ := hrel
      have hl := (Kd.R_reads' HO.out).1
      rw [hl] at HO BF
      cases gk with
      | zero => exact absurd HA.out (by simp [impl_distancesFrom.l1])
      | succ k2 =>
       have H := HA.out
       clear HA
       simp only [impl_distancesFrom.l1] at H
       have hcz0 := zc0 BM
       have hcz1 := zc1 BM
       by_cases c3 : n < (l0_0.length : Int)
       ·rw [if_pos c3] at H
        have c3b : decide (n < (l0_0.length : Int)) = true := decide_eq_true c3
        clear c3
        have H' := Aside0.mk H
        clear H
        go_wp2
        (try simp only [← hl])
        go_loopg [37] k2 (fun kq v37 w' => ∃ (x : List Int) (i : Int), v37 = .int .i64 i ∧ Aside0 (impl_distancesFrom.l2 kq l0_0 l0_1 x n i = some r) ∧ Aside0 (kq ≤ k2) ∧ Aside0 (Kd.R (Kd.int .i64) 3 w' w.heap.size (fun _ => True) (.slice Ao y.length co) x) ∧ Aside0 (w'.heap[gm]? = some (.cells #[.slice A0_0 l0_0.length c0_0, .slice A0_1 l0_1.length c0_1] 25 (0, 0))) ∧ Aside0 (w'.heap[gf]? = some (.cells #[.slice Ao y.length co] 23 (0, 0))) ∧ Aside0 (Below w.heap.size w w'))
        case atStart => exact ⟨x, 0, rfl, H', ⟨Nat.le_refl _⟩, ⟨by (try simp only [hl]); exact rP HO⟩, ⟨by (try simp only [hl]); exact kP BM⟩, ⟨by (try simp only [hl]); exact kP BF⟩, ⟨bP HB⟩⟩
        case round =>
         clear HO BM BF HB hcz0 hcz1 hl H'
         try clear x
         obtain ⟨x, i, rfl, HA, HK2, HO, BM, BF, HB⟩ := hrel
         have hl := (Kd.R_reads' HO.out).1
         rw [hl] at HO BF
         cases gk with
         | zero => exact absurd HA.out (by simp [impl_distancesFrom.l2])
         | succ k3 =>
          have H := HA.out
          clear HA
          simp only [impl_distancesFrom.l2] at H
          by_cases c4 : i < (l0_1.length : Int)
          ·rw [if_pos c4] at H
           have c4b : decide (i < (l0_1.length : Int)) = true := decide_eq_true c4
           by_cases c5 : 0 ≤ i
           ·rw [if_pos c5] at H
            by_cases c6 : i < (x.length : Int)
            ·rw [if_pos c6] at H
             obtain ⟨go, co', eo, gb, gl, cl, HG⟩ := Kd.R_form HO.out (by omega)
             cases eo
             clear gb gl HG
             obtain ⟨hx_, hfz⟩ := Kd.R_celln 0 HO.out (i : Int) c5 c6
             have hx : wr.cell? ⟨go, i.toNat, none⟩ = some (.int .i64 (rd x i)) := hx_
             clear hx_ hfz
             have hcf : wr.cell? ⟨gf, 0, none⟩ = some (.slice (some ⟨go, 0, none⟩) x.length co) := (blk_cell BF.out 0).trans rfl
             obtain ⟨ad, e, hy⟩ := Kd.at_int HS.out i c5 c4
             cases e
             replace hy := (HB.out.cell (World.block_lt_of_cell? w _ hy)).trans hy
             have c4c := eq_true c4
             have c5c := eq_true c5
             have c6c := eq_true c6
             clear c4 c5 c6
             by_cases c7 : rd x i = n
             ·rw [if_pos c7] at H
              obtain ⟨y2, H2, H3⟩ := Option.bind_eq_some_iff.mp H
              clear H
              have c7b : (rd x i == n) = true := beq_iff_eq.mpr c7
              have c7c : decide (rd x i = n) = true := decide_eq_true c7
              clear c7
              have G2 := Aside0.mk H2
              have H' := Aside0.mk H3
              clear H2 H3
              go_wp2_with (first | (go_at_call 67; refine (impl_distancesFrom.at_calls k3 gf gm (some ⟨go, 0, none⟩) co A0_0 c0_0 l0_0 (.slice (some ad) l0_1.length c0_1) x (rd l0_1 i) (wrap64 (n + 1)) y2 _ w (bP HB) HT.out (kP BM) (kP BF) (rP HO) G2.out).mono ?_; rintro e w2 ⟨rfl, hB2, hm2, hf2, ho2⟩; replace HB := Aside0.mk hB2; replace BM := Aside0.mk hm2; replace BF := Aside0.mk hf2; replace HO := Aside0.mk ho2; clear hB2 hm2 hf2 ho2 hx hcf hy))
              (try simp only [← hl])
              go_roundg k3
              case measure => have := HK2.out; omega
              case rel => exact ⟨y2, _, rfl, H', ⟨by have := HK2.out; omega⟩, ⟨by (try simp only [hl]); exact rP HO⟩, ⟨by (try simp only [hl]); exact kP BM⟩, ⟨by (try simp only [hl]); exact kP BF⟩, ⟨bP HB⟩⟩
             ·rw [if_neg c7] at H
              have c7b : (rd x i == n) = false := beq_eq_false_iff_ne.mpr c7
              have c7c : decide (rd x i = n) = false := decide_eq_false c7
              clear c7
              have H' := Aside0.mk H
              clear H
              go_wp2
              (try simp only [← hl])
              go_roundg k3
              case measure => have := HK2.out; omega
              case rel => exact ⟨x, _, rfl, H', ⟨by have := HK2.out; omega⟩, ⟨by (try simp only [hl]); exact rP HO⟩, ⟨by (try simp only [hl]); exact kP BM⟩, ⟨by (try simp only [hl]); exact kP BF⟩, ⟨bP HB⟩⟩
            ·rw [if_neg c6] at H
             exact absurd H (by simp)
           ·rw [if_neg c5] at H
            exact absurd H (by simp)
          ·rw [if_neg c4] at H
           have c4b : decide (i < (l0_1.length : Int)) = false := decide_eq_false c4
           clear c4
           have H' := Aside0.mk H
           clear H
           go_wp2
           (try simp only [← hl])
           go_roundg k3
           case measure => have := HK2.out; have := HK.out; omega
           case rel => exact ⟨x, _, rfl, H', ⟨by have := HK2.out; have := HK.out; omega⟩, ⟨by (try simp only [hl]); exact rP HO⟩, ⟨by (try simp only [hl]); exact kP BM⟩, ⟨by (try simp only [hl]); exact kP BF⟩, ⟨bP HB⟩⟩
       ·rw [if_neg c3] at H
        have c3b : decide (n < (l0_0.length : Int)) = false := decide_eq_false c3
        clear c3
        obtain rfl := Option.some.inj H
        clear H
        have hcf := blk_cell BF.out 0
        go_wp2
        go_ret
        exact ⟨_, eR, rP HO, bP HB⟩
 ·exact absurd h (by simp)

end Go.Proofs.Ytihabnfccgjfbaa.F
