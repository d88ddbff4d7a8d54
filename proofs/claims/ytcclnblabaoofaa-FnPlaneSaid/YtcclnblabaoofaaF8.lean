/- Contracts: what these Go functions return. -/
import Derived.Test.YtcclnblabaoofaaF0
namespace Go.Proofs.Ytcclnblabaoofaa.F
open Go.RowKit Go.Proofs.YtcclnblabaoofaaW.PrintWords Go.Proofs.YtcclnblabaoofaaW.PrintLast Go.Proofs.YtcclnblabaoofaaW.PrintMore
attribute [local go_sem] max2_int min2_int max_two min_two max_three min_three max_four min_four
set_option linter.unusedVariables false
set_option linter.unusedSimpArgs false

/-! ### impl_RootedFace: function 19 -/
def face_ix (xs : List Int) : Array Value := (xs.map fun x => Value.int .i64 x).toArray
theorem face_ix_size (xs : List Int) : (face_ix xs).size = xs.length := by simp [face_ix]
theorem face_ix_one (xs : List Int) : (face_ix xs).all (·.oneCell') = true := by simp [face_ix, Value.oneCell']
theorem face_ix_set (xs : List Int) (i : Nat) (v : Int) : (face_ix xs).setIfInBounds i (.int .i64 v) = face_ix (xs.set i v) := by simp [face_ix, List.map_set]
theorem face_ix_get (xs : List Int) (i : Nat) (h : i < xs.length) : (face_ix xs)[i]? = some (.int .i64 (xs.getD i 0)) := by simp [face_ix, h]
section
variable {P : Program} {t : TypeId} {c : Array Value} {n m : Nat} {e : TypeId}
theorem face_arr_build (hi : (P.info? t).map (fun i => (i.zero, i.size)) = some (some (.agg c), n)) (hu : P.underlying t = some (.array m e)) (he : ∃ q, P.info? e = some q) (W : World) : (Instr.build t #[]).run P W = .ok (.agg c) W := by
 have hz := (zero_of_info hi).1 W
 obtain ⟨q, hq⟩ := he
 simp [Instr.build, hz, run_underlying hu, sizeOf, typeInfo, hq, Instr.fill, Value.cells]
theorem face_arr_alloc (hi : (P.info? t).map (fun i => (i.zero, i.size)) = some (some (.agg c), n)) (W : World) : (Instr.alloc t true (.tuple #[])).run P W = .ok (.pointer (some ⟨W.heap.size, 0, none⟩)) (W.alloc (.cells c t (0, 0))) := by
 have hz := (zero_of_info hi).1 W
 simp [Instr.alloc, hz, newVar, Value.cells]
 rfl
end
section
variable {P : Program} {t : TypeId} {c : Array Value} {n m : Nat} {e : TypeId} {ops : Array Oper} {rest : List Oper} {o : Oper} {a : Act} {Q : Exit → Act → World → Prop} {W : World}
theorem face_arr_build_ev (hgd : o.guard = none) (hop : o.op = .build t #[]) (hi : (P.info? t).map (fun i => (i.zero, i.size)) = some (some (.agg c), n)) (hu : P.underlying t = some (.array m e)) (he : ∃ q, P.info? e = some q)
 (h : wpList P ops Q rest (a.put o.dst (.agg c)) W) : wpList P ops Q (o :: rest) a W :=
 Kd.event_run hgd (by simp [execOp, hop, face_arr_build hi hu he]) h
theorem face_arr_alloc_ev (hgd : o.guard = none) (hop : o.op = .alloc t) (hi : (P.info? t).map (fun i => (i.zero, i.size)) = some (some (.agg c), n))
 (h : wpList P ops Q rest (a.put o.dst (.pointer (some ⟨W.heap.size, 0, none⟩))) (W.alloc (.cells c t (0, 0)))) : wpList P ops Q (o :: rest) a W :=
 Kd.event_run hgd (by simp [execOp, hop, face_arr_alloc hi]) h
theorem face_arr_store_ev {p v : Operand} (hgd : o.guard = none) (hop : o.op = .store t p v) (hdst : o.dst = none) (w : World) (hi : (P.info? t).map (fun i => (i.zero, i.size)) = some (some (.agg c), c.size)) (h1 : c.all (·.oneCell') = true)
 (hp : a.eval p = .pointer (some ⟨w.heap.size, 0, none⟩)) (hv : a.eval v = .agg c) (hW : W = w.alloc (.cells c t (0, 0)))
 (h : wpList P ops Q rest a W) : wpList P ops Q (o :: rest) a W := by
 refine wpList_plain hgd fun K hK => ?_
 unfold Oper.wp
 have hr : (execOp a.eval o).run P W = .ok .skip W := by
  subst hW
  simp [execOp, hop, hp, hv, run_storeAt_new (P := P) w t c c (zero_of_info hi).2 rfl h1]
 rw [hr]
 show K (a.put o.dst undef) W
 rw [hdst]
 exact hK _ _ h
end
mutual
def impl_RootedFace.l0 : Nat → Int → List Int → Int → Option (List Int)
 | 0, _, _, _ => none
 | k + 1, e, xs, n => if n ≤ e then impl_RootedFace.l1 k e xs n 1 else some xs
def impl_RootedFace.l1 : Nat → Int → List Int → Int → Int → Option (List Int)
 | 0, _, _, _, _ => none
 | k + 1, e, xs, n, d => if d ≤ 18 then impl_RootedFace.l2 k e xs n d 0 else impl_RootedFace.l0 k e xs (wrap64 (n + 1))
def impl_RootedFace.l2 : Nat → Int → List Int → Int → Int → Int → Option (List Int)
 | 0, _, _, _, _, _ => none
 | k + 1, e, xs, n, d, i => if i < n then impl_RootedFace.l3 k e xs n d i 0 else impl_RootedFace.l4 k e xs n d (wrap64 (d - 1))
def impl_RootedFace.l3 : Nat → Int → List Int → Int → Int → Int → Int → Option (List Int)
 | 0, _, _, _, _, _, _ => none
 | k + 1, e, xs, n, d, i, a => if a ≤ wrap64 (d - 2) then impl_RootedFace.l3 k e (xs.set (n.toNat * 19 + d.toNat) (wrap64 (rd xs (n * 19 + d) + wrap64 (rd xs (i * 19 + a) * rd xs (wrap64 (wrap64 (n - 1) - i) * 19 + wrap64 (wrap64 (d - 2) - a)))))) n d i (wrap64 (a + 1)) else impl_RootedFace.l2 k e xs n d (wrap64 (i + 1))
def impl_RootedFace.l4 : Nat → Int → List Int → Int → Int → Int → Option (List Int)
 | 0, _, _, _, _, _ => none
 | k + 1, e, xs, n, d, q => if q ≤ 18 then impl_RootedFace.l4 k e (xs.set (n.toNat * 19 + d.toNat) (wrap64 (rd xs (n * 19 + d) + rd xs (wrap64 (n - 1) * 19 + q)))) n d (wrap64 (q + 1)) else impl_RootedFace.l1 k e xs n (wrap64 (d + 1))
end
def impl_RootedFace.tab (e : Int) : Option (List Int) := impl_RootedFace.l0 20000 e ((List.replicate 190 (0 : Int)).set 0 1) 1
def impl_RootedFace.f (e p : Int) : Option Int := if e < 0 then some (-1) else if 9 < e then some (-1) else if p < 0 then some (-1) else if 18 < p then some (-1) else (impl_RootedFace.tab e).bind fun T => some (rd T (e * 19 + p))
theorem face_q_at {xs : List Int} {m a h : Int} {N M : Nat} (hl : xs.length = N) (hm : m = M) (h0 : 0 ≤ a) (h2 : 0 ≤ h) (h3 : h < m) (hN : (a + 1) * m ≤ N) : (face_ix xs)[a.toNat * M + h.toNat]? = some (.int .i64 (rd xs (a * m + h))) := by
 subst hm
 obtain ⟨a, rfl⟩ : ∃ k : Nat, a = k := ⟨a.toNat, by omega⟩
 obtain ⟨h, rfl⟩ : ∃ k : Nat, h = k := ⟨h.toNat, by omega⟩
 have e : ((a : Int) * (M : Int) + (h : Int)) = ((a * M + h : Nat) : Int) := by simp
 have e2 : (((a : Int) + 1) * (M : Int)) = ((a * M + M : Nat) : Int) := by simp [Int.add_mul]
 rw [e2] at hN
 have hb : a * M + h < xs.length := by omega
 rw [e, Int.toNat_natCast, Int.toNat_natCast, face_ix_get xs (a * M + h) hb]
 rfl
theorem facts39 : (Try.prog.info? 39).map (fun i => (i.zero, i.size)) = some (some (.agg (face_ix (List.replicate 190 0))), 190) := by kernel_rfl
def impl_RootedFace.T17 : Bool × List (List Nat × List Nat) := (true, [([], []), ([], []), ([0], [0]), ([2, 1], [1, 2]), ([3], [3]), ([], []), ([], []), ([5], [5]), ([7, 6], [6, 7]), ([8], [8]), ([], []), ([10], [10]), ([], []), ([11, 12], [11, 12]), ([], []), ([14], [14]), ([], []), ([15, 16], [15, 16]), ([13], [13]), ([18, 17], [17, 18]), ([19], [19]), ([9, 20], [9, 20]), ([4, 21], [4, 21]), ([0], [0]), ([23, 1, 0, 1, 2, 3, 4, 5, 6, 7, 8, 9, 10, 11, 12, 13, 14, 15, 16, 17, 18, 19, 20, 21, 22], [1, 23]), ([24, 22, 0, 1, 2, 3, 4, 5, 6, 7, 8, 9, 10, 11, 12, 13, 14, 15, 16, 17, 18, 19, 20, 21, 22], [22, 24])])
def impl_RootedFace.B17 : List Nat := [0, 0, 1, 7, 15, 0, 0, 32, 224, 480, 0, 1024, 0, 7168, 0, 16384, 0, 114688, 15360, 523264, 1047552, 2097120, 4194303, 1, 16777215, 33554431]
theorem impl_RootedFace.tab17 : rtab .any (opsOf Try.f19 17) = impl_RootedFace.T17 := by kernel_rfl
theorem impl_RootedFace.bits17 : waitsOk impl_RootedFace.T17.2 impl_RootedFace.B17 = true := by kernel_rfl
def impl_RootedFace.T22 : Bool × List (List Nat × List Nat) := (true, [([], []), ([], []), ([0], [0]), ([2, 1], [1, 2]), ([3], [3]), ([], []), ([5], [5]), ([], []), ([6], [6]), ([8, 7], [7, 8]), ([9], [9]), ([4, 10], [4, 10]), ([0], [0]), ([12, 1, 0, 1, 2, 3, 4, 5, 6, 7, 8, 9, 10, 11], [1, 12]), ([13, 11, 0, 1, 2, 3, 4, 5, 6, 7, 8, 9, 10, 11], [11, 13])])
def impl_RootedFace.B22 : List Nat := [0, 0, 1, 7, 15, 0, 32, 0, 96, 480, 992, 2047, 1, 8191, 16383]
theorem impl_RootedFace.tab22 : rtab .any (opsOf Try.f19 22) = impl_RootedFace.T22 := by kernel_rfl
theorem impl_RootedFace.bits22 : waitsOk impl_RootedFace.T22.2 impl_RootedFace.B22 = true := by kernel_rfl
attribute [local go_sem] max2_int min2_int
set_option maxHeartbeats 16000000 in
set_option maxRecDepth 100000 in
theorem impl_RootedFace.calls (e p : Int) (r : Int) (w : World) (hf : impl_RootedFace.f e p = some r) :
 Calls Try.prog 19 #[.int .i64 e, .int .i64 p] w fun e w' => e = .returned (.int .i64 r) ∧ Below w.heap.size w w' := by
 unfold impl_RootedFace.f at hf
 have bad : ∀ x : World, Below x.heap.size x x := fun x => Below.refl _ _
 by_cases h1 : e < 0
 ·rw [if_pos h1] at hf
  obtain rfl := Option.some.inj hf
  clear hf
  have b1 : decide (e < 0) = true := decide_eq_true h1
  clear h1
  go_enter Try.func19, Try.ntmps19
  go_wp2
  go_ret
  exact ⟨rfl, bad _⟩
 rw [if_neg h1] at hf
 have b1 : decide (e < 0) = false := decide_eq_false h1
 by_cases h2 : 9 < e
 ·rw [if_pos h2] at hf
  obtain rfl := Option.some.inj hf
  clear hf
  have b2 : decide (9 < e) = true := decide_eq_true h2
  clear h1 h2
  go_enter Try.func19, Try.ntmps19
  go_wp2
  go_ret
  exact ⟨rfl, bad _⟩
 rw [if_neg h2] at hf
 have b2 : decide (9 < e) = false := decide_eq_false h2
 by_cases h3 : p < 0
 ·rw [if_pos h3] at hf
  obtain rfl := Option.some.inj hf
  clear hf
  have b3 : decide (p < 0) = true := decide_eq_true h3
  clear h1 h2 h3
  go_enter Try.func19, Try.ntmps19
  go_wp2
  go_ret
  exact ⟨rfl, bad _⟩
 rw [if_neg h3] at hf
 have b3 : decide (p < 0) = false := decide_eq_false h3
 by_cases h4 : 18 < p
 ·rw [if_pos h4] at hf
  obtain rfl := Option.some.inj hf
  clear hf
  have b4 : decide (18 < p) = true := decide_eq_true h4
  clear h1 h2 h3 h4
  go_enter Try.func19, Try.ntmps19
  go_wp2
  go_ret
  exact ⟨rfl, bad _⟩
 rw [if_neg h4] at hf
 have b4 : decide (18 < p) = false := decide_eq_false h4
 have HE : Aside0 ((0 ≤ e ∧ e ≤ 9) ∧ 0 ≤ p ∧ p ≤ 18) := ⟨by omega⟩
 clear h1 h2 h3 h4 bad
 obtain ⟨T, hT, hr⟩ := Option.bind_eq_some_iff.mp hf
 clear hf
 have HR := Aside0.mk (Option.some.inj hr)
 clear hr
 unfold impl_RootedFace.tab at hT
 obtain ⟨K, hK⟩ : ∃ K, K = 20000 := ⟨_, rfl⟩
 obtain ⟨zs, hzs⟩ : ∃ zs, zs = List.replicate 190 (0 : Int) := ⟨_, rfl⟩
 rw [← hK, ← hzs] at hT
 clear hK
 have HF := Aside0.mk hT
 clear hT
 have zc : (face_ix zs)[0]? = some (.int .i64 0) := by rw [hzs]; rfl
 have ZL : Aside0 (zs.length = 190) := ⟨by rw [hzs]; simp⟩
 have F37 := Aside0.mk facts39
 rw [← hzs] at F37
 clear hzs
 have HB : ∀ c, Aside0 (Below w.heap.size w (w.alloc (.cells c 39))) := fun c => ⟨(Below.refl _ _).alloc (Nat.le_refl _) _⟩
 have HB' := Aside0.mk HB
 clear HB
 go_enter Try.func19, Try.ntmps19
 go_wp2_with (first
  | ((with_reducible refine gate_dst (N := 25) rfl ?_); refine face_arr_build_ev rfl rfl F37.out Try.underlying39 ⟨_, rfl⟩ ?_)
  | ((with_reducible refine gate_dst (N := 5) rfl ?_); refine face_arr_alloc_ev rfl rfl F37.out ?_)
  | ((with_reducible refine gate_store (t := 39) (p := 5) rfl ?_); refine face_arr_store_ev rfl rfl rfl w (by rw [F37.out, face_ix_size, ZL.out]) (face_ix_one zs) rfl rfl rfl ?_))
 rw [face_ix_set]
 go_loopg [6] K (fun kq v6 w' => ∃ (n : Int) (xs : List Int), v6 = .int .i64 n ∧ Aside0 (impl_RootedFace.l0 kq e xs n = some T) ∧ Aside0 (kq ≤ K) ∧ Aside0 (1 ≤ n ∧ n ≤ 10) ∧ Aside0 (xs.length = 190) ∧ Aside0 (w'.heap[w.heap.size]? = some (.cells (face_ix xs) 39 (0, 0))) ∧ Aside0 (Below w.heap.size w w'))
 case atStart => exact ⟨1, _, rfl, HF, ⟨Nat.le_refl _⟩, ⟨by omega⟩, ⟨by rw [List.length_set, ZL.out]⟩, ⟨blk_new _ _⟩, HB'.out _⟩
 case round =>
  clear HF zc
  obtain ⟨n, xs, rfl, HA, HK, HN, XL, BK, HB⟩ := hrel
  cases gk with
  | zero => exact absurd HA.out (by simp [impl_RootedFace.l0])
  | succ k1 =>
   have H := HA.out
   clear HA
   simp only [impl_RootedFace.l0] at H
   by_cases c1 : n ≤ e
   ·rw [if_pos c1] at H
    have c1b : decide (n ≤ e) = true := decide_eq_true c1
    have HN1 : Aside0 (n ≤ 9) := ⟨by have := HE.out; omega⟩
    clear c1
    have H' := Aside0.mk H
    clear H
    go_wp2
    go_loopg [7] k1 (fun kq v7 w' => ∃ (d : Int) (xs : List Int), v7 = .int .i64 d ∧ Aside0 (impl_RootedFace.l1 kq e xs n d = some T) ∧ Aside0 (kq ≤ k1) ∧ Aside0 (1 ≤ d ∧ d ≤ 19) ∧ Aside0 (xs.length = 190) ∧ Aside0 (w'.heap[w.heap.size]? = some (.cells (face_ix xs) 39 (0, 0))) ∧ Aside0 (Below w.heap.size w w'))
    case atStart => exact ⟨1, xs, rfl, H', ⟨Nat.le_refl _⟩, ⟨by omega⟩, XL, ⟨kP BK⟩, ⟨by repeat (first | exact HB.out | apply pw_below_drewN | apply below_drew1)⟩⟩
    case round =>
     clear H' XL BK HB
     clear xs
     obtain ⟨d, xs, rfl, HA, HK1, HD, XL, BK, HB⟩ := hrel
     cases gk with
     | zero => exact absurd HA.out (by simp [impl_RootedFace.l1])
     | succ k2 =>
      have H := HA.out
      clear HA
      simp only [impl_RootedFace.l1] at H
      by_cases c2 : d ≤ 18
      ·rw [if_pos c2] at H
       have c2b : decide (d ≤ 18) = true := decide_eq_true c2
       have HD1 := Aside0.mk c2
       clear c2
       have H' := Aside0.mk H
       clear H
       go_wp2
       go_loopg [38] k2 (fun kq v38 w' => ∃ (i : Int) (xs : List Int), v38 = .int .i64 i ∧ Aside0 (impl_RootedFace.l2 kq e xs n d i = some T) ∧ Aside0 (kq ≤ k2) ∧ Aside0 (0 ≤ i ∧ i ≤ n) ∧ Aside0 (xs.length = 190) ∧ Aside0 (w'.heap[w.heap.size]? = some (.cells (face_ix xs) 39 (0, 0))) ∧ Aside0 (Below w.heap.size w w'))
       case atStart => exact ⟨0, xs, rfl, H', ⟨Nat.le_refl _⟩, ⟨by have := HN.out; omega⟩, XL, ⟨kP BK⟩, ⟨by repeat (first | exact HB.out | apply pw_below_drewN | apply below_drew1)⟩⟩
       case round =>
        clear H' XL BK HB
        clear xs
        obtain ⟨i, xs, rfl, HA, HK2, HI, XL, BK, HB⟩ := hrel
        cases gk with
        | zero => exact absurd HA.out (by simp [impl_RootedFace.l2])
        | succ k3 =>
         have H := HA.out
         clear HA
         simp only [impl_RootedFace.l2] at H
         by_cases c3 : i < n
         ·rw [if_pos c3] at H
          have c3b : decide (i < n) = true := decide_eq_true c3
          have HI1 := Aside0.mk c3
          clear c3
          have H' := Aside0.mk H
          clear H
          go_wp2
          go_loopg [9] k3 (fun kq v9 w' => ∃ (a : Int) (xs : List Int), v9 = .int .i64 a ∧ Aside0 (impl_RootedFace.l3 kq e xs n d i a = some T) ∧ Aside0 (kq ≤ k3) ∧ Aside0 (0 ≤ a ∧ a ≤ 18) ∧ Aside0 (xs.length = 190) ∧ Aside0 (w'.heap[w.heap.size]? = some (.cells (face_ix xs) 39 (0, 0))) ∧ Aside0 (Below w.heap.size w w'))
          case atStart => exact ⟨0, xs, rfl, H', ⟨Nat.le_refl _⟩, ⟨by omega⟩, XL, ⟨kP BK⟩, ⟨by repeat (first | exact HB.out | apply pw_below_drewN | apply below_drew1)⟩⟩
          case round =>
           clear H' XL BK HB
           clear xs
           obtain ⟨a, xs, rfl, HA, HK3, HG, XL, BK, HB⟩ := hrel
           cases gk with
           | zero => exact absurd HA.out (by simp [impl_RootedFace.l3])
           | succ k4 =>
            have H := HA.out
            clear HA
            simp only [impl_RootedFace.l3] at H
            obtain ⟨dd, hdd⟩ : ∃ dd, wrap64 (d - 2) = dd := ⟨_, rfl⟩
            have hDD : Aside0 (dd = d - 2) := ⟨by rw [← hdd]; have := HD.out; unfold wrap64; omega⟩
            rw [hdd] at H
            by_cases c4 : a ≤ dd
            ·rw [if_pos c4] at H
             have c4b : decide (a ≤ dd) = true := decide_eq_true c4
             have HG1 := Aside0.mk c4
             clear c4
             obtain ⟨b, hb⟩ : ∃ b, wrap64 (wrap64 (n - 1) - i) = b := ⟨_, rfl⟩
             obtain ⟨c, hc⟩ : ∃ c, wrap64 (dd - a) = c := ⟨_, rfl⟩
             have hA : Aside0 (b = n - 1 - i ∧ c = d - 2 - a) := ⟨by have := HN.out; have := HI.out; have := HG.out; have := HD.out; have := hDD.out; exact ⟨by rw [← hb]; unfold wrap64; omega, by rw [← hc]; unfold wrap64; omega⟩⟩
             have p1 := eq_true (show 0 ≤ n by have := HN.out; omega)
             have p2 := eq_true (show n < 10 by have := HN1.out; omega)
             have p3 := eq_true (show 0 ≤ d by have := HD.out; omega)
             have p4 := eq_true (show d < 19 by have := HD1.out; omega)
             have p5 := eq_true (show 0 ≤ i from HI.out.1)
             have p6 := eq_true (show i < 10 by have := HI1.out; have := HN1.out; omega)
             have p7 := eq_true (show 0 ≤ a from HG.out.1)
             have p8 := eq_true (show a < 19 by have := HG1.out; have := hDD.out; have := HD1.out; omega)
             have p9 := eq_true (show 0 ≤ b by have := hA.out; have := HI1.out; omega)
             have p10 := eq_true (show b < 10 by have := hA.out; have := HI.out; have := HN1.out; omega)
             have p11 := eq_true (show 0 ≤ c by have := hA.out; have := HG1.out; have := hDD.out; omega)
             have p12 := eq_true (show c < 19 by have := hA.out; have := HG.out; have := HD1.out; omega)
             have y1 := face_q_at (m := 19) (M := 19) (a := n) (h := d) XL.out rfl (of_eq_true p1) (of_eq_true p3) (of_eq_true p4) (by have := of_eq_true p2; omega)
             have y2 := face_q_at (m := 19) (M := 19) (a := i) (h := a) XL.out rfl (of_eq_true p5) (of_eq_true p7) (of_eq_true p8) (by have := of_eq_true p6; omega)
             have y3 := face_q_at (m := 19) (M := 19) (a := b) (h := c) XL.out rfl (of_eq_true p9) (of_eq_true p11) (of_eq_true p12) (by have := of_eq_true p10; omega)
             rw [hb, hc] at H
             obtain ⟨v1, hv1⟩ : ∃ v, rd xs (n * 19 + d) = v := ⟨_, rfl⟩
             obtain ⟨v2, hv2⟩ : ∃ v, rd xs (i * 19 + a) = v := ⟨_, rfl⟩
             obtain ⟨v3, hv3⟩ : ∃ v, rd xs (b * 19 + c) = v := ⟨_, rfl⟩
             rw [hv1] at y1 H
             rw [hv2] at y2 H
             rw [hv3] at y3 H
             clear hv1 hv2 hv3
             have X1 := Aside0.mk y1
             have X2 := Aside0.mk y2
             have X3 := Aside0.mk y3
             clear y1 y2 y3
             have x1 := (blk_cell BK.out _).trans X1.out
             have x2 := (blk_cell BK.out _).trans X2.out
             have x3 := (blk_cell BK.out _).trans X3.out
             have f1 := blk_frozen BK.out (n.toNat * 19 + d.toNat)
             have H' := Aside0.mk H
             clear H
             have n0_ := Aside0.mk (blk_drew BK.out)
             have n1_ := Aside0.mk (below_drew1 HB.out)
             go_wp2
             refine start_ (n := 26) (S := fun w' => w'.cell? ⟨w.heap.size, n.toNat * 19 + d.toNat, none⟩ = some (.int .i64 v1) ∧ w'.cell? ⟨w.heap.size, i.toNat * 19 + a.toNat, none⟩ = some (.int .i64 v2) ∧ w'.cell? ⟨w.heap.size, b.toNat * 19 + c.toNat, none⟩ = some (.int .i64 v3)) (ds := [25]) #[false, false, false, false, false, false, false, false, false, false, false, false, false, false, false, false, false, false, false, false, false, false, false, false, false, false] (by kernel_rfl) rfl rfl ⟨(blk_cell BK.out _).trans X1.out, (blk_cell BK.out _).trans X2.out, (blk_cell BK.out _).trans X3.out⟩ (fun hHeld => ?_)
             refine with_tabW impl_RootedFace.tab17 impl_RootedFace.bits17 (fun HT_ HW_ => ?_)
             generalize wr.drew = w5 at n0_ n1_ hHeld ⊢
             clear BK HB x1 x2 x3 f1
             have BK := n0_
             have HB := n1_
             clear n0_ n1_
             have x1 := (blk_cell BK.out _).trans X1.out
             have f1 := blk_frozen BK.out (n.toNat * 19 + d.toNat)
             refine pure_ (i := 0) (N := some 47) (v := ?_) (a' := ?_) #[true, false, false, false, false, false, false, false, false, false, false, false, false, false, false, false, false, false, false, false, false, false, false, false, false, false] rfl rfl (any_of HT_.out (by kernel_rfl)) (fun _ _ _ h => h) (Or.inl ⟨by rfl, ?_⟩) ?_ ?_
             rotate_left
             ·intro w'
              go_simp
              with_reducible rfl
             rotate_left
             ·simp only [Act.put, List.setIfInBounds_toArray, List.set_cons_zero, List.set_cons_succ, i64_w, i32_w]
              rfl
             refine pure_ (i := 1) (N := some 48) (v := ?_) (a' := ?_) #[true, true, false, false, false, false, false, false, false, false, false, false, false, false, false, false, false, false, false, false, false, false, false, false, false, false] rfl rfl (any_of HT_.out (by kernel_rfl)) (fun _ _ _ h => h) (Or.inl ⟨by rfl, ?_⟩) ?_ ?_
             rotate_left
             ·intro w'
              go_simp
              with_reducible rfl
             rotate_left
             ·simp only [Act.put, List.setIfInBounds_toArray, List.set_cons_zero, List.set_cons_succ, i64_w, i32_w]
              rfl
             refine pure_ (i := 2) (N := some 49) (v := ?_) (a' := ?_) #[true, true, true, false, false, false, false, false, false, false, false, false, false, false, false, false, false, false, false, false, false, false, false, false, false, false] rfl rfl (any_of HT_.out (by kernel_rfl)) (fun _ _ _ h => h) (Or.inl ⟨by rfl, ?_⟩) ?_ ?_
             rotate_left
             ·intro w'
              go_simp
              with_reducible rfl
             rotate_left
             ·simp only [Act.put, List.setIfInBounds_toArray, List.set_cons_zero, List.set_cons_succ, i64_w, i32_w]
              rfl
             refine pure_ (i := 3) (N := some 50) (v := ?_) (a' := ?_) #[true, true, true, true, false, false, false, false, false, false, false, false, false, false, false, false, false, false, false, false, false, false, false, false, false, false] rfl rfl (any_of HT_.out (by kernel_rfl)) (fun _ _ _ h => h) (Or.inl ⟨by rfl, ?_⟩) ?_ ?_
             rotate_left
             ·intro w'
              go_simp
              with_reducible rfl
             rotate_left
             ·simp only [Act.put, List.setIfInBounds_toArray, List.set_cons_zero, List.set_cons_succ, i64_w, i32_w]
              rfl
             refine pure_ (i := 5) (N := some 52) (v := ?_) (a' := ?_) #[true, true, true, true, false, true, false, false, false, false, false, false, false, false, false, false, false, false, false, false, false, false, false, false, false, false] rfl rfl (any_of HT_.out (by kernel_rfl)) (fun _ _ _ h => h) (Or.inl ⟨by rfl, ?_⟩) ?_ ?_
             rotate_left
             ·intro w'
              go_simp
              with_reducible rfl
             rotate_left
             ·simp only [Act.put, List.setIfInBounds_toArray, List.set_cons_zero, List.set_cons_succ, i64_w, i32_w]
              rfl
             refine pure_ (i := 6) (N := some 53) (v := ?_) (a' := ?_) #[true, true, true, true, false, true, true, false, false, false, false, false, false, false, false, false, false, false, false, false, false, false, false, false, false, false] rfl rfl (any_of HT_.out (by kernel_rfl)) (fun _ _ _ h => h) (Or.inl ⟨by rfl, ?_⟩) ?_ ?_
             rotate_left
             ·intro w'
              go_simp
              with_reducible rfl
             rotate_left
             ·simp only [Act.put, List.setIfInBounds_toArray, List.set_cons_zero, List.set_cons_succ, i64_w, i32_w]
              rfl
             refine pure_ (i := 7) (N := some 54) (v := ?_) (a' := ?_) #[true, true, true, true, false, true, true, true, false, false, false, false, false, false, false, false, false, false, false, false, false, false, false, false, false, false] rfl rfl (any_of HT_.out (by kernel_rfl)) (fun _ _ _ h => h) (Or.inl ⟨by rfl, ?_⟩) ?_ ?_
             rotate_left
             ·intro w'
              go_simp
              with_reducible rfl
             rotate_left
             ·simp only [Act.put, List.setIfInBounds_toArray, List.set_cons_zero, List.set_cons_succ, i64_w, i32_w]
              rfl
             refine pure_ (i := 8) (N := some 55) (v := ?_) (a' := ?_) #[true, true, true, true, false, true, true, true, true, false, false, false, false, false, false, false, false, false, false, false, false, false, false, false, false, false] rfl rfl (any_of HT_.out (by kernel_rfl)) (fun _ _ _ h => h) (Or.inl ⟨by rfl, ?_⟩) ?_ ?_
             rotate_left
             ·intro w'
              go_simp
              with_reducible rfl
             rotate_left
             ·simp only [Act.put, List.setIfInBounds_toArray, List.set_cons_zero, List.set_cons_succ, i64_w, i32_w]
              rfl
             refine pure_ (i := 10) (N := some 57) (v := ?_) (a' := ?_) #[true, true, true, true, false, true, true, true, true, false, true, false, false, false, false, false, false, false, false, false, false, false, false, false, false, false] rfl rfl (any_of HT_.out (by kernel_rfl)) (fun _ _ _ h => h) (Or.inl ⟨by rfl, ?_⟩) ?_ ?_
             rotate_left
             ·intro w'
              go_simp
              with_reducible rfl
             rotate_left
             ·simp only [Act.put, List.setIfInBounds_toArray, List.set_cons_zero, List.set_cons_succ, i64_w, i32_w]
              rfl
             refine pure_ (i := 11) (N := some 58) (v := ?_) (a' := ?_) #[true, true, true, true, false, true, true, true, true, false, true, true, false, false, false, false, false, false, false, false, false, false, false, false, false, false] rfl rfl (any_of HT_.out (by kernel_rfl)) (fun _ _ _ h => h) (Or.inl ⟨by rfl, ?_⟩) ?_ ?_
             rotate_left
             ·intro w'
              go_simp
              with_reducible rfl
             rotate_left
             ·simp only [Act.put, List.setIfInBounds_toArray, List.set_cons_zero, List.set_cons_succ, i64_w, i32_w]
              rfl
             refine pure_ (i := 12) (N := some 59) (v := ?_) (a' := ?_) #[true, true, true, true, false, true, true, true, true, false, true, true, true, false, false, false, false, false, false, false, false, false, false, false, false, false] rfl rfl (any_of HT_.out (by kernel_rfl)) (fun _ _ _ h => h) (Or.inl ⟨by rfl, ?_⟩) ?_ ?_
             rotate_left
             ·intro w'
              go_simp
              with_reducible rfl
             rotate_left
             ·simp only [Act.put, List.setIfInBounds_toArray, List.set_cons_zero, List.set_cons_succ, i64_w, i32_w]
              rfl
             refine pure_ (i := 13) (N := some 60) (v := ?_) (a' := ?_) #[true, true, true, true, false, true, true, true, true, false, true, true, true, true, false, false, false, false, false, false, false, false, false, false, false, false] rfl rfl (any_of HT_.out (by kernel_rfl)) (fun _ _ _ h => h) (Or.inl ⟨by rfl, ?_⟩) ?_ ?_
             rotate_left
             ·intro w'
              go_simp
              with_reducible rfl
             rotate_left
             ·simp only [Act.put, List.setIfInBounds_toArray, List.set_cons_zero, List.set_cons_succ, i64_w, i32_w]
              rfl
             refine pure_ (i := 14) (N := some 61) (v := ?_) (a' := ?_) #[true, true, true, true, false, true, true, true, true, false, true, true, true, true, true, false, false, false, false, false, false, false, false, false, false, false] rfl rfl (any_of HT_.out (by kernel_rfl)) (fun _ _ _ h => h) (Or.inl ⟨by rfl, ?_⟩) ?_ ?_
             rotate_left
             ·intro w'
              go_simp
              with_reducible rfl
             rotate_left
             ·simp only [Act.put, List.setIfInBounds_toArray, List.set_cons_zero, List.set_cons_succ, i64_w, i32_w]
              rfl
             refine pure_ (i := 15) (N := some 62) (v := ?_) (a' := ?_) #[true, true, true, true, false, true, true, true, true, false, true, true, true, true, true, true, false, false, false, false, false, false, false, false, false, false] rfl rfl (any_of HT_.out (by kernel_rfl)) (fun _ _ _ h => h) (Or.inl ⟨by rfl, ?_⟩) ?_ ?_
             rotate_left
             ·intro w'
              go_simp
              with_reducible rfl
             rotate_left
             ·simp only [Act.put, List.setIfInBounds_toArray, List.set_cons_zero, List.set_cons_succ, i64_w, i32_w]
              rfl
             refine pure_ (i := 16) (N := some 63) (v := ?_) (a' := ?_) #[true, true, true, true, false, true, true, true, true, false, true, true, true, true, true, true, true, false, false, false, false, false, false, false, false, false] rfl rfl (any_of HT_.out (by kernel_rfl)) (fun _ _ _ h => h) (Or.inl ⟨by rfl, ?_⟩) ?_ ?_
             rotate_left
             ·intro w'
              go_simp
              with_reducible rfl
             rotate_left
             ·simp only [Act.put, List.setIfInBounds_toArray, List.set_cons_zero, List.set_cons_succ, i64_w, i32_w]
              rfl
             refine pure_ (i := 17) (N := some 64) (v := ?_) (a' := ?_) #[true, true, true, true, false, true, true, true, true, false, true, true, true, true, true, true, true, true, false, false, false, false, false, false, false, false] rfl rfl (any_of HT_.out (by kernel_rfl)) (fun _ _ _ h => h) (Or.inl ⟨by rfl, ?_⟩) ?_ ?_
             rotate_left
             ·intro w'
              go_simp
              with_reducible rfl
             rotate_left
             ·simp only [Act.put, List.setIfInBounds_toArray, List.set_cons_zero, List.set_cons_succ, i64_w, i32_w]
              rfl
             refine pure_ (i := 18) (N := some 65) (v := ?_) (a' := ?_) #[true, true, true, true, false, true, true, true, true, false, true, true, true, true, true, true, true, true, true, false, false, false, false, false, false, false] rfl rfl (any_of HT_.out (by kernel_rfl)) (fun _ _ _ h => h) (Or.inl ⟨by rfl, ?_⟩) ?_ ?_
             rotate_left
             ·intro w'
              go_simp
              with_reducible rfl
             rotate_left
             ·simp only [Act.put, List.setIfInBounds_toArray, List.set_cons_zero, List.set_cons_succ, i64_w, i32_w]
              rfl
             refine pure_ (i := 19) (N := some 66) (v := ?_) (a' := ?_) #[true, true, true, true, false, true, true, true, true, false, true, true, true, true, true, true, true, true, true, true, false, false, false, false, false, false] rfl rfl (any_of HT_.out (by kernel_rfl)) (fun _ _ _ h => h) (Or.inl ⟨by rfl, ?_⟩) ?_ ?_
             rotate_left
             ·intro w'
              go_simp
              with_reducible rfl
             rotate_left
             ·simp only [Act.put, List.setIfInBounds_toArray, List.set_cons_zero, List.set_cons_succ, i64_w, i32_w]
              rfl
             refine pure_ (i := 23) (N := some 70) (v := ?_) (a' := ?_) #[true, true, true, true, false, true, true, true, true, false, true, true, true, true, true, true, true, true, true, true, false, false, false, true, false, false] rfl rfl (any_of HT_.out (by kernel_rfl)) (fun _ _ _ h => h) (Or.inl ⟨by rfl, ?_⟩) ?_ ?_
             rotate_left
             ·intro w'
              go_simp
              with_reducible rfl
             rotate_left
             ·simp only [Act.put, List.setIfInBounds_toArray, List.set_cons_zero, List.set_cons_succ, i64_w, i32_w]
              rfl
             refine take_ (i := 4) (N := some 51) (v := ?_) (a' := ?_) #[true, true, true, true, true, true, true, true, true, false, true, true, true, true, true, true, true, true, true, true, false, false, false, true, false, false] rfl rfl (take_ofW HT_.out HW_.out (by kernel_rfl)) (fun _ _ _ h => h) (Or.inl ⟨by rfl, ?_⟩) hHeld ?_ ?_
             rotate_left
             ·rintro w' ⟨s0, s1, s2⟩
              go_simp
              with_reducible rfl
             rotate_left
             ·simp only [Act.put, List.setIfInBounds_toArray, List.set_cons_zero, List.set_cons_succ, i64_w, i32_w]
              rfl
             refine take_ (i := 9) (N := some 56) (v := ?_) (a' := ?_) #[true, true, true, true, true, true, true, true, true, true, true, true, true, true, true, true, true, true, true, true, false, false, false, true, false, false] rfl rfl (take_ofW HT_.out HW_.out (by kernel_rfl)) (fun _ _ _ h => h) (Or.inl ⟨by rfl, ?_⟩) hHeld ?_ ?_
             rotate_left
             ·rintro w' ⟨s0, s1, s2⟩
              go_simp
              with_reducible rfl
             rotate_left
             ·simp only [Act.put, List.setIfInBounds_toArray, List.set_cons_zero, List.set_cons_succ, i64_w, i32_w]
              rfl
             refine take_ (i := 20) (N := some 67) (v := ?_) (a' := ?_) #[true, true, true, true, true, true, true, true, true, true, true, true, true, true, true, true, true, true, true, true, true, false, false, true, false, false] rfl rfl (take_ofW HT_.out HW_.out (by kernel_rfl)) (fun _ _ _ h => h) (Or.inl ⟨by rfl, ?_⟩) hHeld ?_ ?_
             rotate_left
             ·rintro w' ⟨s0, s1, s2⟩
              go_simp
              with_reducible rfl
             rotate_left
             ·simp only [Act.put, List.setIfInBounds_toArray, List.set_cons_zero, List.set_cons_succ, i64_w, i32_w]
              rfl
             refine pure_ (i := 21) (N := some 68) (v := ?_) (a' := ?_) #[true, true, true, true, true, true, true, true, true, true, true, true, true, true, true, true, true, true, true, true, true, true, false, true, false, false] rfl rfl (any_of HT_.out (by kernel_rfl)) (fun _ _ _ h => h) (Or.inl ⟨by rfl, ?_⟩) ?_ ?_
             rotate_left
             ·intro w'
              go_simp
              with_reducible rfl
             rotate_left
             ·simp only [Act.put, List.setIfInBounds_toArray, List.set_cons_zero, List.set_cons_succ, i64_w, i32_w]
              rfl
             refine pure_ (i := 22) (N := some 69) (v := ?_) (a' := ?_) #[true, true, true, true, true, true, true, true, true, true, true, true, true, true, true, true, true, true, true, true, true, true, true, true, false, false] rfl rfl (any_of HT_.out (by kernel_rfl)) (fun _ _ _ h => h) (Or.inl ⟨by rfl, ?_⟩) ?_ ?_
             rotate_left
             ·intro w'
              go_simp
              with_reducible rfl
             rotate_left
             ·simp only [Act.put, List.setIfInBounds_toArray, List.set_cons_zero, List.set_cons_succ, i64_w, i32_w]
              rfl
             refine pure_ (i := 24) (N := some 71) (v := ?_) (a' := ?_) #[true, true, true, true, true, true, true, true, true, true, true, true, true, true, true, true, true, true, true, true, true, true, true, true, true, false] rfl rfl (any_of HT_.out (by kernel_rfl)) (fun _ _ _ h => h) (Or.inl ⟨by rfl, ?_⟩) ?_ ?_
             rotate_left
             ·intro w'
              go_simp
              with_reducible rfl
             rotate_left
             ·simp only [Act.put, List.setIfInBounds_toArray, List.set_cons_zero, List.set_cons_succ, i64_w, i32_w]
              rfl
             refine last_ (i := 25) (N := none) #[true, true, true, true, true, true, true, true, true, true, true, true, true, true, true, true, true, true, true, true, true, true, true, true, true, true] rfl rfl (one_of HT_.out (by kernel_rfl)) (by decide) (fun K hK => ?_)
             refine skip_ (w1 := ?_) (by rfl) rfl ?_ ?_
             rotate_left
             ·go_simp
              rfl
             refine hK.out _ _ ?_
             clear hK K
             refine done_ (done_of HT_.out (by kernel_rfl)) ?_
             try go_wp2
             go_roundg k4
             case measure => have := HK3.out; omega
             case rel => exact ⟨wrap64 (a + 1), _, rfl, H', ⟨by have := HK3.out; omega⟩, ⟨by have := HG1.out; have := HG.out; have := hDD.out; have := HD1.out; unfold wrap64; omega⟩, ⟨by rw [List.length_set, XL.out]⟩, ⟨by (with_reducible repeat (first | apply blk_drewN | apply blk_drew | apply blk_alloc)); exact blk_put BK.out _ _ (face_ix_set _ _ _)⟩, ⟨by repeat (first | exact HB.out | apply pw_below_drewN | apply below_drew1 | refine below_set ?_ (Nat.le_refl _))⟩⟩
            ·rw [if_neg c4] at H
             have c4b : decide (a ≤ dd) = false := decide_eq_false c4
             clear c4
             have H' := Aside0.mk H
             clear H
             go_wp2
             go_roundg k4
             case measure => have := HK3.out; have := HK2.out; omega
             case rel => exact ⟨wrap64 (i + 1), xs, rfl, H', ⟨by have := HK3.out; have := HK2.out; omega⟩, ⟨by have := HI1.out; have := HI.out; have := HN.out; unfold wrap64; omega⟩, XL, ⟨kP BK⟩, ⟨by repeat (first | exact HB.out | apply pw_below_drewN | apply below_drew1)⟩⟩
         ·rw [if_neg c3] at H
          have c3b : decide (i < n) = false := decide_eq_false c3
          clear c3
          have H' := Aside0.mk H
          clear H
          go_wp2
          go_loopg [10] k3 (fun kq v10 w' => ∃ (q : Int) (xs : List Int), v10 = .int .i64 q ∧ Aside0 (impl_RootedFace.l4 kq e xs n d q = some T) ∧ Aside0 (kq ≤ k3) ∧ Aside0 (0 ≤ q ∧ q ≤ 19) ∧ Aside0 (xs.length = 190) ∧ Aside0 (w'.heap[w.heap.size]? = some (.cells (face_ix xs) 39 (0, 0))) ∧ Aside0 (Below w.heap.size w w'))
          case atStart => exact ⟨wrap64 (d - 1), xs, rfl, H', ⟨Nat.le_refl _⟩, ⟨by have := HD.out; have := HD1.out; unfold wrap64; omega⟩, XL, ⟨kP BK⟩, ⟨by repeat (first | exact HB.out | apply pw_below_drewN | apply below_drew1)⟩⟩
          case round =>
           clear H' XL BK HB
           clear xs
           obtain ⟨q, xs, rfl, HA, HK3, HG, XL, BK, HB⟩ := hrel
           cases gk with
           | zero => exact absurd HA.out (by simp [impl_RootedFace.l4])
           | succ k4 =>
            have H := HA.out
            clear HA
            simp only [impl_RootedFace.l4] at H
            by_cases c4 : q ≤ 18
            ·rw [if_pos c4] at H
             have c4b : decide (q ≤ 18) = true := decide_eq_true c4
             have HG1 := Aside0.mk c4
             clear c4
             obtain ⟨b, hb⟩ : ∃ b, wrap64 (n - 1) = b := ⟨_, rfl⟩
             have hA : Aside0 (b = n - 1) := ⟨by rw [← hb]; have := HN.out; unfold wrap64; omega⟩
             have p1 := eq_true (show 0 ≤ n by have := HN.out; omega)
             have p2 := eq_true (show n < 10 by have := HN1.out; omega)
             have p3 := eq_true (show 0 ≤ d by have := HD.out; omega)
             have p4 := eq_true (show d < 19 by have := HD1.out; omega)
             have p5 := eq_true (show 0 ≤ b by have := hA.out; have := HN.out; omega)
             have p6 := eq_true (show b < 10 by have := hA.out; have := HN1.out; omega)
             have p7 := eq_true (show 0 ≤ q from HG.out.1)
             have p8 := eq_true (show q < 19 by have := HG1.out; omega)
             have y1 := face_q_at (m := 19) (M := 19) (a := n) (h := d) XL.out rfl (of_eq_true p1) (of_eq_true p3) (of_eq_true p4) (by have := of_eq_true p2; omega)
             have y2 := face_q_at (m := 19) (M := 19) (a := b) (h := q) XL.out rfl (of_eq_true p5) (of_eq_true p7) (of_eq_true p8) (by have := of_eq_true p6; omega)
             rw [hb] at H
             obtain ⟨v1, hv1⟩ : ∃ v, rd xs (n * 19 + d) = v := ⟨_, rfl⟩
             obtain ⟨v2, hv2⟩ : ∃ v, rd xs (b * 19 + q) = v := ⟨_, rfl⟩
             rw [hv1] at y1 H
             rw [hv2] at y2 H
             clear hv1 hv2
             have X1 := Aside0.mk y1
             have X2 := Aside0.mk y2
             clear y1 y2
             have x1 := (blk_cell BK.out _).trans X1.out
             have x2 := (blk_cell BK.out _).trans X2.out
             have f1 := blk_frozen BK.out (n.toNat * 19 + d.toNat)
             have H' := Aside0.mk H
             clear H
             have n0_ := Aside0.mk (blk_drew BK.out)
             have n1_ := Aside0.mk (below_drew1 HB.out)
             go_wp2
             refine start_ (n := 15) (S := fun w' => w'.cell? ⟨w.heap.size, n.toNat * 19 + d.toNat, none⟩ = some (.int .i64 v1) ∧ w'.cell? ⟨w.heap.size, b.toNat * 19 + q.toNat, none⟩ = some (.int .i64 v2)) (ds := [14]) #[false, false, false, false, false, false, false, false, false, false, false, false, false, false, false] (by kernel_rfl) rfl rfl ⟨(blk_cell BK.out _).trans X1.out, (blk_cell BK.out _).trans X2.out⟩ (fun hHeld => ?_)
             refine with_tabW impl_RootedFace.tab22 impl_RootedFace.bits22 (fun HT_ HW_ => ?_)
             generalize wr.drew = w5 at n0_ n1_ hHeld ⊢
             clear BK HB x1 x2 f1
             have BK := n0_
             have HB := n1_
             clear n0_ n1_
             have x1 := (blk_cell BK.out _).trans X1.out
             have f1 := blk_frozen BK.out (n.toNat * 19 + d.toNat)
             refine pure_ (i := 0) (N := some 79) (v := ?_) (a' := ?_) #[true, false, false, false, false, false, false, false, false, false, false, false, false, false, false] rfl rfl (any_of HT_.out (by kernel_rfl)) (fun _ _ _ h => h) (Or.inl ⟨by rfl, ?_⟩) ?_ ?_
             rotate_left
             ·intro w'
              go_simp
              with_reducible rfl
             rotate_left
             ·simp only [Act.put, List.setIfInBounds_toArray, List.set_cons_zero, List.set_cons_succ, i64_w, i32_w]
              rfl
             refine pure_ (i := 1) (N := some 80) (v := ?_) (a' := ?_) #[true, true, false, false, false, false, false, false, false, false, false, false, false, false, false] rfl rfl (any_of HT_.out (by kernel_rfl)) (fun _ _ _ h => h) (Or.inl ⟨by rfl, ?_⟩) ?_ ?_
             rotate_left
             ·intro w'
              go_simp
              with_reducible rfl
             rotate_left
             ·simp only [Act.put, List.setIfInBounds_toArray, List.set_cons_zero, List.set_cons_succ, i64_w, i32_w]
              rfl
             refine pure_ (i := 2) (N := some 81) (v := ?_) (a' := ?_) #[true, true, true, false, false, false, false, false, false, false, false, false, false, false, false] rfl rfl (any_of HT_.out (by kernel_rfl)) (fun _ _ _ h => h) (Or.inl ⟨by rfl, ?_⟩) ?_ ?_
             rotate_left
             ·intro w'
              go_simp
              with_reducible rfl
             rotate_left
             ·simp only [Act.put, List.setIfInBounds_toArray, List.set_cons_zero, List.set_cons_succ, i64_w, i32_w]
              rfl
             refine pure_ (i := 3) (N := some 82) (v := ?_) (a' := ?_) #[true, true, true, true, false, false, false, false, false, false, false, false, false, false, false] rfl rfl (any_of HT_.out (by kernel_rfl)) (fun _ _ _ h => h) (Or.inl ⟨by rfl, ?_⟩) ?_ ?_
             rotate_left
             ·intro w'
              go_simp
              with_reducible rfl
             rotate_left
             ·simp only [Act.put, List.setIfInBounds_toArray, List.set_cons_zero, List.set_cons_succ, i64_w, i32_w]
              rfl
             refine pure_ (i := 5) (N := some 84) (v := ?_) (a' := ?_) #[true, true, true, true, false, true, false, false, false, false, false, false, false, false, false] rfl rfl (any_of HT_.out (by kernel_rfl)) (fun _ _ _ h => h) (Or.inl ⟨by rfl, ?_⟩) ?_ ?_
             rotate_left
             ·intro w'
              go_simp
              with_reducible rfl
             rotate_left
             ·simp only [Act.put, List.setIfInBounds_toArray, List.set_cons_zero, List.set_cons_succ, i64_w, i32_w]
              rfl
             refine pure_ (i := 6) (N := some 85) (v := ?_) (a' := ?_) #[true, true, true, true, false, true, true, false, false, false, false, false, false, false, false] rfl rfl (any_of HT_.out (by kernel_rfl)) (fun _ _ _ h => h) (Or.inl ⟨by rfl, ?_⟩) ?_ ?_
             rotate_left
             ·intro w'
              go_simp
              with_reducible rfl
             rotate_left
             ·simp only [Act.put, List.setIfInBounds_toArray, List.set_cons_zero, List.set_cons_succ, i64_w, i32_w]
              rfl
             refine pure_ (i := 7) (N := some 86) (v := ?_) (a' := ?_) #[true, true, true, true, false, true, true, true, false, false, false, false, false, false, false] rfl rfl (any_of HT_.out (by kernel_rfl)) (fun _ _ _ h => h) (Or.inl ⟨by rfl, ?_⟩) ?_ ?_
             rotate_left
             ·intro w'
              go_simp
              with_reducible rfl
             rotate_left
             ·simp only [Act.put, List.setIfInBounds_toArray, List.set_cons_zero, List.set_cons_succ, i64_w, i32_w]
              rfl
             refine pure_ (i := 8) (N := some 87) (v := ?_) (a' := ?_) #[true, true, true, true, false, true, true, true, true, false, false, false, false, false, false] rfl rfl (any_of HT_.out (by kernel_rfl)) (fun _ _ _ h => h) (Or.inl ⟨by rfl, ?_⟩) ?_ ?_
             rotate_left
             ·intro w'
              go_simp
              with_reducible rfl
             rotate_left
             ·simp only [Act.put, List.setIfInBounds_toArray, List.set_cons_zero, List.set_cons_succ, i64_w, i32_w]
              rfl
             refine pure_ (i := 9) (N := some 88) (v := ?_) (a' := ?_) #[true, true, true, true, false, true, true, true, true, true, false, false, false, false, false] rfl rfl (any_of HT_.out (by kernel_rfl)) (fun _ _ _ h => h) (Or.inl ⟨by rfl, ?_⟩) ?_ ?_
             rotate_left
             ·intro w'
              go_simp
              with_reducible rfl
             rotate_left
             ·simp only [Act.put, List.setIfInBounds_toArray, List.set_cons_zero, List.set_cons_succ, i64_w, i32_w]
              rfl
             refine pure_ (i := 12) (N := some 91) (v := ?_) (a' := ?_) #[true, true, true, true, false, true, true, true, true, true, false, false, true, false, false] rfl rfl (any_of HT_.out (by kernel_rfl)) (fun _ _ _ h => h) (Or.inl ⟨by rfl, ?_⟩) ?_ ?_
             rotate_left
             ·intro w'
              go_simp
              with_reducible rfl
             rotate_left
             ·simp only [Act.put, List.setIfInBounds_toArray, List.set_cons_zero, List.set_cons_succ, i64_w, i32_w]
              rfl
             refine take_ (i := 4) (N := some 83) (v := ?_) (a' := ?_) #[true, true, true, true, true, true, true, true, true, true, false, false, true, false, false] rfl rfl (take_ofW HT_.out HW_.out (by kernel_rfl)) (fun _ _ _ h => h) (Or.inl ⟨by rfl, ?_⟩) hHeld ?_ ?_
             rotate_left
             ·rintro w' ⟨s0, s1⟩
              go_simp
              with_reducible rfl
             rotate_left
             ·simp only [Act.put, List.setIfInBounds_toArray, List.set_cons_zero, List.set_cons_succ, i64_w, i32_w]
              rfl
             refine take_ (i := 10) (N := some 89) (v := ?_) (a' := ?_) #[true, true, true, true, true, true, true, true, true, true, true, false, true, false, false] rfl rfl (take_ofW HT_.out HW_.out (by kernel_rfl)) (fun _ _ _ h => h) (Or.inl ⟨by rfl, ?_⟩) hHeld ?_ ?_
             rotate_left
             ·rintro w' ⟨s0, s1⟩
              go_simp
              with_reducible rfl
             rotate_left
             ·simp only [Act.put, List.setIfInBounds_toArray, List.set_cons_zero, List.set_cons_succ, i64_w, i32_w]
              rfl
             refine pure_ (i := 11) (N := some 90) (v := ?_) (a' := ?_) #[true, true, true, true, true, true, true, true, true, true, true, true, true, false, false] rfl rfl (any_of HT_.out (by kernel_rfl)) (fun _ _ _ h => h) (Or.inl ⟨by rfl, ?_⟩) ?_ ?_
             rotate_left
             ·intro w'
              go_simp
              with_reducible rfl
             rotate_left
             ·simp only [Act.put, List.setIfInBounds_toArray, List.set_cons_zero, List.set_cons_succ, i64_w, i32_w]
              rfl
             refine pure_ (i := 13) (N := some 92) (v := ?_) (a' := ?_) #[true, true, true, true, true, true, true, true, true, true, true, true, true, true, false] rfl rfl (any_of HT_.out (by kernel_rfl)) (fun _ _ _ h => h) (Or.inl ⟨by rfl, ?_⟩) ?_ ?_
             rotate_left
             ·intro w'
              go_simp
              with_reducible rfl
             rotate_left
             ·simp only [Act.put, List.setIfInBounds_toArray, List.set_cons_zero, List.set_cons_succ, i64_w, i32_w]
              rfl
             refine last_ (i := 14) (N := none) #[true, true, true, true, true, true, true, true, true, true, true, true, true, true, true] rfl rfl (one_of HT_.out (by kernel_rfl)) (by decide) (fun K hK => ?_)
             refine skip_ (w1 := ?_) (by rfl) rfl ?_ ?_
             rotate_left
             ·go_simp
              rfl
             refine hK.out _ _ ?_
             clear hK K
             refine done_ (done_of HT_.out (by kernel_rfl)) ?_
             try go_wp2
             go_roundg k4
             case measure => have := HK3.out; omega
             case rel => exact ⟨wrap64 (q + 1), _, rfl, H', ⟨by have := HK3.out; omega⟩, ⟨by have := HG1.out; have := HG.out; unfold wrap64; omega⟩, ⟨by rw [List.length_set, XL.out]⟩, ⟨by (with_reducible repeat (first | apply blk_drewN | apply blk_drew | apply blk_alloc)); exact blk_put BK.out _ _ (face_ix_set _ _ _)⟩, ⟨by repeat (first | exact HB.out | apply pw_below_drewN | apply below_drew1 | refine below_set ?_ (Nat.le_refl _))⟩⟩
            ·rw [if_neg c4] at H
             have c4b : decide (q ≤ 18) = false := decide_eq_false c4
             clear c4
             have H' := Aside0.mk H
             clear H
             go_wp2
             go_roundg k4
             case measure => have := HK3.out; have := HK2.out; have := HK1.out; omega
             case rel => exact ⟨wrap64 (d + 1), xs, rfl, H', ⟨by have := HK3.out; have := HK2.out; have := HK1.out; omega⟩, ⟨by have := HD1.out; have := HD.out; unfold wrap64; omega⟩, XL, ⟨kP BK⟩, ⟨by repeat (first | exact HB.out | apply pw_below_drewN | apply below_drew1)⟩⟩
      ·rw [if_neg c2] at H
       have c2b : decide (d ≤ 18) = false := decide_eq_false c2
       clear c2
       have H' := Aside0.mk H
       clear H
       go_wp2
       go_roundg k2
       case measure => have := HK1.out; have := HK.out; omega
       case rel => exact ⟨wrap64 (n + 1), xs, rfl, H', ⟨by have := HK1.out; have := HK.out; omega⟩, ⟨by have := HN.out; have := HN1.out; unfold wrap64; omega⟩, XL, ⟨kP BK⟩, ⟨by repeat (first | exact HB.out | apply pw_below_drewN | apply below_drew1)⟩⟩
   ·rw [if_neg c1] at H
    have c1b : decide (n ≤ e) = false := decide_eq_false c1
    clear c1
    have p1 := eq_true (show 0 ≤ e from HE.out.1.1)
    have p2 := eq_true (show e < 10 by have := HE.out; omega)
    have p3 := eq_true (show 0 ≤ p from HE.out.2.1)
    have p4 := eq_true (show p < 19 by have := HE.out; omega)
    have y1 := face_q_at (m := 19) (M := 19) (a := e) (h := p) XL.out rfl (of_eq_true p1) (of_eq_true p3) (of_eq_true p4) (by have := of_eq_true p2; omega)
    obtain rfl := Option.some.inj H
    clear H
    rw [HR.out] at y1
    have x1 := (blk_cell BK.out _).trans y1
    clear y1
    go_wp2
    go_ret
    exact ⟨rfl, by repeat (first | exact HB.out | apply pw_below_drewN | apply below_drew1)⟩

end Go.Proofs.Ytcclnblabaoofaa.F
