/- Contracts: what these Go functions return. -/
import Derived.Test.YtcclnblabaoofaaF0
namespace Go.Proofs.Ytcclnblabaoofaa.F
open Go.RowKit Go.Proofs.YtcclnblabaoofaaW.PrintWords Go.Proofs.YtcclnblabaoofaaW.PrintLast Go.Proofs.YtcclnblabaoofaaW.PrintMore
attribute [local go_sem] max2_int min2_int max_two min_two max_three min_three max_four min_four
set_option linter.unusedVariables false
set_option linter.unusedSimpArgs false

/-! ### impl_RootedRun: function 17 -/
def ix (xs : List Int) : Array Value := (xs.map fun x => Value.int .i64 x).toArray
theorem ix_size (xs : List Int) : (ix xs).size = xs.length := by simp [ix]
theorem ix_one (xs : List Int) : (ix xs).all (·.oneCell') = true := by simp [ix, Value.oneCell']
theorem ix_set (xs : List Int) (i : Nat) (v : Int) : (ix xs).setIfInBounds i (.int .i64 v) = ix (xs.set i v) := by simp [ix, List.map_set]
theorem ix_get (xs : List Int) (i : Nat) (h : i < xs.length) : (ix xs)[i]? = some (.int .i64 (xs.getD i 0)) := by simp [ix, h]
section
variable {P : Program} {t : TypeId} {c : Array Value} {n m : Nat} {e : TypeId}
theorem arr_build (hi : (P.info? t).map (fun i => (i.zero, i.size)) = some (some (.agg c), n)) (hu : P.underlying t = some (.array m e)) (he : ∃ q, P.info? e = some q) (W : World) : (Instr.build t #[]).run P W = .ok (.agg c) W := by
 have hz := (zero_of_info hi).1 W
 obtain ⟨q, hq⟩ := he
 simp [Instr.build, hz, run_underlying hu, sizeOf, typeInfo, hq, Instr.fill, Value.cells]
theorem arr_alloc (hi : (P.info? t).map (fun i => (i.zero, i.size)) = some (some (.agg c), n)) (W : World) : (Instr.alloc t true (.tuple #[])).run P W = .ok (.pointer (some ⟨W.heap.size, 0, none⟩)) (W.alloc (.cells c t (0, 0))) := by
 have hz := (zero_of_info hi).1 W
 simp [Instr.alloc, hz, newVar, Value.cells]
 rfl
end
section
variable {P : Program} {t : TypeId} {c : Array Value} {n m : Nat} {e : TypeId} {ops : Array Oper} {rest : List Oper} {o : Oper} {a : Act} {Q : Exit → Act → World → Prop} {W : World}
theorem arr_build_ev (hgd : o.guard = none) (hop : o.op = .build t #[]) (hi : (P.info? t).map (fun i => (i.zero, i.size)) = some (some (.agg c), n)) (hu : P.underlying t = some (.array m e)) (he : ∃ q, P.info? e = some q)
 (h : wpList P ops Q rest (a.put o.dst (.agg c)) W) : wpList P ops Q (o :: rest) a W :=
 Kd.event_run hgd (by simp [execOp, hop, arr_build hi hu he]) h
theorem arr_alloc_ev (hgd : o.guard = none) (hop : o.op = .alloc t) (hi : (P.info? t).map (fun i => (i.zero, i.size)) = some (some (.agg c), n))
 (h : wpList P ops Q rest (a.put o.dst (.pointer (some ⟨W.heap.size, 0, none⟩))) (W.alloc (.cells c t (0, 0)))) : wpList P ops Q (o :: rest) a W :=
 Kd.event_run hgd (by simp [execOp, hop, arr_alloc hi]) h
theorem arr_store_ev {p v : Operand} (hgd : o.guard = none) (hop : o.op = .store t p v) (hdst : o.dst = none) (w : World) (hi : (P.info? t).map (fun i => (i.zero, i.size)) = some (some (.agg c), c.size)) (h1 : c.all (·.oneCell') = true)
 (hp : a.eval p = .pointer (some ⟨w.heap.size, 0, none⟩)) (hv : a.eval v = .agg c) (hW : W = w.alloc (.cells c t (0, 0)))
 (h : wpList P ops Q rest a W) : wpList P ops Q (o :: rest) a W := by
 refine wpList_plain hgd fun K hK => ?_
 unfold Oper.wp
 have hr : (execOp a.eval o).run P W = .ok .skip W := by
  subst hW
  simp [execOp, hop, hp, hv, run_storeAt_new (P := P) w t c c (zero_of_info hi).2 rfl h1]
 rw [hr]
 show K (a.put o.dst undef) W
 rw [hdst]
 exact hK _ _ h
end
mutual
def impl_RootedRun.l0 : Nat → Int → Int → List Int → Int → Option Int
 | 0, _, _, _, _ => none
 | k + 1, e, g, xs, n => if n ≤ e then impl_RootedRun.l1 k e g xs n 0 else some (rd xs (e * 6 + g))
def impl_RootedRun.l1 : Nat → Int → Int → List Int → Int → Int → Option Int
 | 0, _, _, _, _, _ => none
 | k + 1, e, g, xs, n, h => if h ≤ g then (if 2 ≤ n then (if 1 ≤ h then impl_RootedRun.l2 k e g xs n h (wrap64 (wrap64 (wrap64 (4 * wrap64 (wrap64 (4 * n) - 2)) * rd xs (wrap64 (n - 1) * 6 + h)) + wrap64 (wrap64 (wrap64 (wrap64 (wrap64 (2 * n) - 3) * wrap64 (wrap64 (2 * n) - 2)) * wrap64 (wrap64 (2 * n) - 1)) * rd xs (wrap64 (n - 2) * 6 + wrap64 (h - 1))))) 1 else impl_RootedRun.l2 k e g xs n h (wrap64 (wrap64 (4 * wrap64 (wrap64 (4 * n) - 2)) * rd xs (wrap64 (n - 1) * 6 + h))) 1) else impl_RootedRun.l2 k e g xs n h (wrap64 (wrap64 (4 * wrap64 (wrap64 (4 * n) - 2)) * rd xs (wrap64 (n - 1) * 6 + h))) 1) else impl_RootedRun.l0 k e g xs (wrap64 (n + 1))
def impl_RootedRun.l2 : Nat → Int → Int → List Int → Int → Int → Int → Int → Option Int
 | 0, _, _, _, _, _, _, _ => none
 | k + 1, e, g, xs, n, h, s, q => if q < n then impl_RootedRun.l3 k e g xs n h s q 0 else impl_RootedRun.l1 k e g (xs.set (n.toNat * 6 + h.toNat) (wrap64 (Int.tdiv s (wrap64 (2 * wrap64 (n + 1)))))) n (wrap64 (h + 1))
def impl_RootedRun.l3 : Nat → Int → Int → List Int → Int → Int → Int → Int → Int → Option Int
 | 0, _, _, _, _, _, _, _, _ => none
 | k + 1, e, g, xs, n, h, s, q, i => if i ≤ h then impl_RootedRun.l3 k e g xs n h (wrap64 (s + wrap64 (wrap64 (wrap64 (wrap64 (6 * wrap64 (wrap64 (2 * q) - 1)) * wrap64 (wrap64 (2 * wrap64 (n - q)) - 1)) * rd xs (wrap64 (q - 1) * 6 + i)) * rd xs (wrap64 (wrap64 (n - q) - 1) * 6 + wrap64 (h - i))))) q (wrap64 (i + 1)) else impl_RootedRun.l2 k e g xs n h s (wrap64 (q + 1))
end
def impl_RootedRun.f (e g : Int) : Option Int := if e < 0 then some (-1) else if 9 < e then some (-1) else if g < 0 then some (-1) else if 5 < g then some (-1) else impl_RootedRun.l0 5000 e g ((List.replicate 60 (0 : Int)).set 0 1) 1
theorem wrap_in_ {n : Int} (h1 : -9223372036854775808 ≤ n) (h2 : n ≤ 9223372036854775807) : wrap64 n = n := by unfold wrap64; omega
theorem q_at {xs : List Int} {m a h : Int} {N M : Nat} (hl : xs.length = N) (hm : m = M) (h0 : 0 ≤ a) (h2 : 0 ≤ h) (h3 : h < m) (hN : (a + 1) * m ≤ N) : (ix xs)[a.toNat * M + h.toNat]? = some (.int .i64 (rd xs (a * m + h))) := by
 subst hm
 obtain ⟨a, rfl⟩ : ∃ k : Nat, a = k := ⟨a.toNat, by omega⟩
 obtain ⟨h, rfl⟩ : ∃ k : Nat, h = k := ⟨h.toNat, by omega⟩
 have e : ((a : Int) * (M : Int) + (h : Int)) = ((a * M + h : Nat) : Int) := by simp
 have e2 : (((a : Int) + 1) * (M : Int)) = ((a * M + M : Nat) : Int) := by simp [Int.add_mul]
 rw [e2] at hN
 have hb : a * M + h < xs.length := by omega
 rw [e, Int.toNat_natCast, Int.toNat_natCast, ix_get xs (a * M + h) hb]
 rfl
theorem facts37 : (Try.prog.info? 37).map (fun i => (i.zero, i.size)) = some (some (.agg (ix (List.replicate 60 0))), 60) := by kernel_rfl
def impl_RootedRun.T21 : Bool × List (List Nat × List Nat) := (true, [([], []), ([], []), ([], []), ([], []), ([3], [3]), ([4], [4]), ([2, 5], [2, 5]), ([0], [0]), ([7, 1, 0, 1, 2, 3, 4, 5, 6], [1, 7]), ([8, 6, 0, 1, 2, 3, 4, 5, 6], [6, 8])])
def impl_RootedRun.B21 : List Nat := [0, 0, 0, 0, 8, 24, 60, 1, 255, 511]
theorem impl_RootedRun.tab21 : rtab .any (opsOf Try.f17 21) = impl_RootedRun.T21 := by kernel_rfl
theorem impl_RootedRun.bits21 : waitsOk impl_RootedRun.T21.2 impl_RootedRun.B21 = true := by kernel_rfl
attribute [local go_sem] max2_int min2_int
set_option maxHeartbeats 16000000 in
set_option maxRecDepth 100000 in
theorem impl_RootedRun.calls (e g : Int) (r : Int) (w : World) (hf : impl_RootedRun.f e g = some r) :
 Calls Try.prog 17 #[.int .i64 e, .int .i64 g] w fun e w' => e = .returned (.int .i64 r) ∧ Below w.heap.size w w' := by
 unfold impl_RootedRun.f at hf
 have bad : ∀ x : World, Below x.heap.size x x := fun x => Below.refl _ _
 by_cases h1 : e < 0
 ·rw [if_pos h1] at hf
  obtain rfl := Option.some.inj hf
  clear hf
  have b1 : decide (e < 0) = true := decide_eq_true h1
  clear h1
  go_enter Try.func17, Try.ntmps17
  go_wp2
  go_ret
  exact ⟨rfl, bad _⟩
 rw [if_neg h1] at hf
 have b1 : decide (e < 0) = false := decide_eq_false h1
 by_cases h2 : 9 < e
 ·rw [if_pos h2] at hf
  obtain rfl := Option.some.inj hf
  clear hf
  have b2 : decide (9 < e) = true := decide_eq_true h2
  clear h1 h2
  go_enter Try.func17, Try.ntmps17
  go_wp2
  go_ret
  exact ⟨rfl, bad _⟩
 rw [if_neg h2] at hf
 have b2 : decide (9 < e) = false := decide_eq_false h2
 by_cases h3 : g < 0
 ·rw [if_pos h3] at hf
  obtain rfl := Option.some.inj hf
  clear hf
  have b3 : decide (g < 0) = true := decide_eq_true h3
  clear h1 h2 h3
  go_enter Try.func17, Try.ntmps17
  go_wp2
  go_ret
  exact ⟨rfl, bad _⟩
 rw [if_neg h3] at hf
 have b3 : decide (g < 0) = false := decide_eq_false h3
 by_cases h4 : 5 < g
 ·rw [if_pos h4] at hf
  obtain rfl := Option.some.inj hf
  clear hf
  have b4 : decide (5 < g) = true := decide_eq_true h4
  clear h1 h2 h3 h4
  go_enter Try.func17, Try.ntmps17
  go_wp2
  go_ret
  exact ⟨rfl, bad _⟩
 rw [if_neg h4] at hf
 have b4 : decide (5 < g) = false := decide_eq_false h4
 have HE : Aside0 ((0 ≤ e ∧ e ≤ 9) ∧ 0 ≤ g ∧ g ≤ 5) := ⟨by omega⟩
 clear h1 h2 h3 h4 bad
 obtain ⟨K, hK⟩ : ∃ K, K = 5000 := ⟨_, rfl⟩
 obtain ⟨zs, hzs⟩ : ∃ zs, zs = List.replicate 60 (0 : Int) := ⟨_, rfl⟩
 rw [← hK, ← hzs] at hf
 clear hK
 have HF := Aside0.mk hf
 clear hf
 have zc : (ix zs)[0]? = some (.int .i64 0) := by rw [hzs]; rfl
 have ZL : Aside0 (zs.length = 60) := ⟨by rw [hzs]; simp⟩
 have F37 := Aside0.mk facts37
 rw [← hzs] at F37
 clear hzs
 have HB : ∀ c, Aside0 (Below w.heap.size w (w.alloc (.cells c 37))) := fun c => ⟨(Below.refl _ _).alloc (Nat.le_refl _) _⟩
 have HB' := Aside0.mk HB
 clear HB
 go_enter Try.func17, Try.ntmps17
 go_wp2_with (first
  | ((with_reducible refine gate_dst (N := 25) rfl ?_); refine arr_build_ev rfl rfl F37.out Try.underlying37 ⟨_, rfl⟩ ?_)
  | ((with_reducible refine gate_dst (N := 5) rfl ?_); refine arr_alloc_ev rfl rfl F37.out ?_)
  | ((with_reducible refine gate_store (t := 37) (p := 5) rfl ?_); refine arr_store_ev rfl rfl rfl w (by rw [F37.out, ix_size, ZL.out]) (ix_one zs) rfl rfl rfl ?_))
 rw [ix_set]
 go_loopg [6] K (fun kq v6 w' => ∃ (n : Int) (xs : List Int), v6 = .int .i64 n ∧ Aside0 (impl_RootedRun.l0 kq e g xs n = some r) ∧ Aside0 (kq ≤ K) ∧ Aside0 (1 ≤ n ∧ n ≤ 10) ∧ Aside0 (xs.length = 60) ∧ Aside0 (w'.heap[w.heap.size]? = some (.cells (ix xs) 37 (0, 0))) ∧ Aside0 (Below w.heap.size w w'))
 case atStart => exact ⟨1, _, rfl, HF, ⟨Nat.le_refl _⟩, ⟨by omega⟩, ⟨by rw [List.length_set, ZL.out]⟩, ⟨blk_new _ _⟩, HB'.out _⟩
 case round =>
  clear HF zc
  obtain ⟨n, xs, rfl, HA, HK, HN, XL, BK, HB⟩ := hrel
  cases gk with
  | zero => exact absurd HA.out (by simp [impl_RootedRun.l0])
  | succ k1 =>
   have H := HA.out
   clear HA
   simp only [impl_RootedRun.l0] at H
   by_cases c1 : n ≤ e
   ·rw [if_pos c1] at H
    have c1b : decide (n ≤ e) = true := decide_eq_true c1
    have HN1 : Aside0 (n ≤ 9) := ⟨by have := HE.out; omega⟩
    clear c1
    have H' := Aside0.mk H
    clear H
    go_wp2
    go_loopg [7] k1 (fun kq v7 w' => ∃ (h : Int) (xs : List Int), v7 = .int .i64 h ∧ Aside0 (impl_RootedRun.l1 kq e g xs n h = some r) ∧ Aside0 (kq ≤ k1) ∧ Aside0 (0 ≤ h ∧ h ≤ 6) ∧ Aside0 (xs.length = 60) ∧ Aside0 (w'.heap[w.heap.size]? = some (.cells (ix xs) 37 (0, 0))) ∧ Aside0 (Below w.heap.size w w'))
    case atStart => exact ⟨0, xs, rfl, H', ⟨Nat.le_refl _⟩, ⟨by omega⟩, XL, ⟨kP BK⟩, ⟨by repeat (first | exact HB.out | apply pw_below_drewN | apply below_drew1)⟩⟩
    case round =>
     clear H' XL BK HB
     clear xs
     obtain ⟨h, xs, rfl, HA, HK1, HH, XL, BK, HB⟩ := hrel
     cases gk with
     | zero => exact absurd HA.out (by simp [impl_RootedRun.l1])
     | succ k2 =>
      have H := HA.out
      clear HA
      simp only [impl_RootedRun.l1] at H
      by_cases c2 : h ≤ g
      ·rw [if_pos c2] at H
       have c2b : decide (h ≤ g) = true := decide_eq_true c2
       have HH1 : Aside0 (h ≤ 5) := ⟨by have := HE.out; omega⟩
       clear c2
       obtain ⟨a, ha⟩ : ∃ a, wrap64 (n - 1) = a := ⟨_, rfl⟩
       have hA : Aside0 (a = n - 1) := ⟨by rw [← ha]; have := HN.out; unfold wrap64; omega⟩
       have p1 := eq_true (show 0 ≤ a by have := hA.out; have := HN.out; omega)
       have p2 := eq_true (show a < 10 by have := hA.out; have := HN.out; omega)
       have p3 := eq_true (show 0 ≤ h from HH.out.1)
       have p4 := eq_true (show h < 6 by have := HH1.out; omega)
       have x1 := (blk_cell BK.out _).trans (q_at (m := 6) (M := 6) (a := a) (h := h) XL.out rfl (of_eq_true p1) (of_eq_true p3) (of_eq_true p4) (by have := of_eq_true p2; omega))
       rw [ha] at H
       obtain ⟨v, hv⟩ : ∃ v, rd xs (a * 6 + h) = v := ⟨_, rfl⟩
       rw [hv] at x1 H
       clear hv
       by_cases c3 : 2 ≤ n
       ·rw [if_pos c3] at H
        have c3b : decide (2 ≤ n) = true := decide_eq_true c3
        have HN2 := Aside0.mk c3
        clear c3
        by_cases c4 : 1 ≤ h
        ·rw [if_pos c4] at H
         have c4b : decide (1 ≤ h) = true := decide_eq_true c4
         have HH2 := Aside0.mk c4
         clear c4
         obtain ⟨b, hb⟩ : ∃ b, wrap64 (n - 2) = b := ⟨_, rfl⟩
         obtain ⟨f, hf⟩ : ∃ f, wrap64 (h - 1) = f := ⟨_, rfl⟩
         have hB : Aside0 (b = n - 2 ∧ f = h - 1) := ⟨by have := HN.out; have := HH.out; exact ⟨by rw [← hb]; unfold wrap64; omega, by rw [← hf]; unfold wrap64; omega⟩⟩
         have p5 := eq_true (show 0 ≤ b by have := hB.out; have := HN2.out; omega)
         have p6 := eq_true (show b < 10 by have := hB.out; have := HN.out; omega)
         have p7 := eq_true (show 0 ≤ f by have := hB.out; have := HH2.out; omega)
         have p8 := eq_true (show f < 6 by have := hB.out; have := HH1.out; omega)
         have x2 := (blk_cell BK.out _).trans (q_at (m := 6) (M := 6) (a := b) (h := f) XL.out rfl (of_eq_true p5) (of_eq_true p7) (of_eq_true p8) (by have := of_eq_true p6; omega))
         rw [hb, hf] at H
         obtain ⟨u, hu⟩ : ∃ u, rd xs (b * 6 + f) = u := ⟨_, rfl⟩
         rw [hu] at x2 H
         clear hu
         have H' := Aside0.mk H
         clear H
         go_wp2
         repeat (go_quiet (fail); try go_wp2)
         go_loopg [8, 9] k2 (fun kq v8 v9 w' => ∃ (s q : Int), v8 = .int .i64 s ∧ v9 = .int .i64 q ∧ Aside0 (impl_RootedRun.l2 kq e g xs n h s q = some r) ∧ Aside0 (kq ≤ k2) ∧ Aside0 (1 ≤ q ∧ q ≤ n) ∧ Aside0 (w'.heap[w.heap.size]? = some (.cells (ix xs) 37 (0, 0))) ∧ Aside0 (Below w.heap.size w w'))
         case atStart => exact ⟨_, 1, rfl, rfl, H', ⟨Nat.le_refl _⟩, ⟨by have := HN.out; omega⟩, ⟨kP BK⟩, ⟨by repeat (first | exact HB.out | apply pw_below_drewN | apply below_drew1)⟩⟩
         case round =>
          clear H' BK HB
          obtain ⟨s, q, rfl, rfl, HA, HK2, HQ, BK, HB⟩ := hrel
          cases gk with
          | zero => exact absurd HA.out (by simp [impl_RootedRun.l2])
          | succ k3 =>
           have H := HA.out
           clear HA
           simp only [impl_RootedRun.l2] at H
           by_cases c5 : q < n
           ·rw [if_pos c5] at H
            have c5b : decide (q < n) = true := decide_eq_true c5
            have HQ1 := Aside0.mk c5
            clear c5
            have H' := Aside0.mk H
            clear H
            go_wp2
            go_loopg [8, 10] k3 (fun kq v8 v10 w' => ∃ (s i : Int), v8 = .int .i64 s ∧ v10 = .int .i64 i ∧ Aside0 (impl_RootedRun.l3 kq e g xs n h s q i = some r) ∧ Aside0 (kq ≤ k3) ∧ Aside0 (0 ≤ i ∧ i ≤ h + 1) ∧ Aside0 (w'.heap[w.heap.size]? = some (.cells (ix xs) 37 (0, 0))) ∧ Aside0 (Below w.heap.size w w'))
            case atStart => exact ⟨s, 0, rfl, rfl, H', ⟨Nat.le_refl _⟩, ⟨by have := HH.out; omega⟩, ⟨kP BK⟩, ⟨by repeat (first | exact HB.out | apply pw_below_drewN | apply below_drew1)⟩⟩
            case round =>
             clear H' BK HB
             clear s
             obtain ⟨s, i, rfl, rfl, HA, HK3, HI, BK, HB⟩ := hrel
             cases gk with
             | zero => exact absurd HA.out (by simp [impl_RootedRun.l3])
             | succ k4 =>
              have H := HA.out
              clear HA
              simp only [impl_RootedRun.l3] at H
              by_cases c6 : i ≤ h
              ·rw [if_pos c6] at H
               have c6b : decide (i ≤ h) = true := decide_eq_true c6
               have HI1 := Aside0.mk c6
               clear c6
               obtain ⟨a, ha⟩ : ∃ a, wrap64 (q - 1) = a := ⟨_, rfl⟩
               obtain ⟨c, hc⟩ : ∃ c, wrap64 (wrap64 (n - q) - 1) = c := ⟨_, rfl⟩
               obtain ⟨d, hd⟩ : ∃ d, wrap64 (h - i) = d := ⟨_, rfl⟩
               have hA : Aside0 (a = q - 1 ∧ c = n - q - 1 ∧ d = h - i) := ⟨by have := HN.out; have := HQ.out; have := HI.out; have := HH.out; exact ⟨by rw [← ha]; unfold wrap64; omega, by rw [← hc]; unfold wrap64; omega, by rw [← hd]; unfold wrap64; omega⟩⟩
               have p1 := eq_true (show 0 ≤ a by have := hA.out; have := HQ.out; omega)
               have p2 := eq_true (show a < 10 by have := hA.out; have := HQ.out; have := HN.out; omega)
               have p3 := eq_true (show 0 ≤ i from HI.out.1)
               have p4 := eq_true (show i < 6 by have := HI1.out; have := HH1.out; omega)
               have p5 := eq_true (show 0 ≤ c by have := hA.out; have := HQ1.out; omega)
               have p6 := eq_true (show c < 10 by have := hA.out; have := HQ.out; have := HN.out; omega)
               have p7 := eq_true (show 0 ≤ d by have := hA.out; have := HI1.out; omega)
               have p8 := eq_true (show d < 6 by have := hA.out; have := HI.out; have := HH1.out; omega)
               have x1 := (blk_cell BK.out _).trans (q_at (m := 6) (M := 6) (a := a) (h := i) XL.out rfl (of_eq_true p1) (of_eq_true p3) (of_eq_true p4) (by have := of_eq_true p2; omega))
               have x2 := (blk_cell BK.out _).trans (q_at (m := 6) (M := 6) (a := c) (h := d) XL.out rfl (of_eq_true p5) (of_eq_true p7) (of_eq_true p8) (by have := of_eq_true p6; omega))
               rw [ha, hc, hd] at H
               obtain ⟨v, hv⟩ : ∃ v, rd xs (a * 6 + i) = v := ⟨_, rfl⟩
               obtain ⟨u, hu⟩ : ∃ u, rd xs (c * 6 + d) = u := ⟨_, rfl⟩
               rw [hv] at x1 H
               rw [hu] at x2 H
               clear hv hu
               have H' := Aside0.mk H
               clear H
               go_wp2
               repeat (go_quiet (fail); try go_wp2)
               go_roundg k4
               case measure => have := HK3.out; omega
               case rel => exact ⟨_, wrap64 (i + 1), rfl, rfl, H', ⟨by have := HK3.out; omega⟩, ⟨by have := HI1.out; have := HI.out; have := HH.out; unfold wrap64; omega⟩, ⟨kP BK⟩, ⟨by repeat (first | exact HB.out | apply pw_below_drewN | apply below_drew1)⟩⟩
              ·rw [if_neg c6] at H
               have c6b : decide (i ≤ h) = false := decide_eq_false c6
               clear c6
               have H' := Aside0.mk H
               clear H
               go_wp2
               go_roundg k4
               case measure => have := HK3.out; have := HK2.out; omega
               case rel => exact ⟨s, wrap64 (q + 1), rfl, rfl, H', ⟨by have := HK3.out; have := HK2.out; omega⟩, ⟨by have := HQ1.out; have := HQ.out; have := HN.out; unfold wrap64; omega⟩, ⟨kP BK⟩, ⟨by repeat (first | exact HB.out | apply pw_below_drewN | apply below_drew1)⟩⟩
           ·rw [if_neg c5] at H
            have c5b : decide (q < n) = false := decide_eq_false c5
            clear c5
            obtain ⟨m, hm⟩ : ∃ m, wrap64 (2 * wrap64 (n + 1)) = m := ⟨_, rfl⟩
            have hM : Aside0 (m ≠ 0) := ⟨by rw [← hm]; have := HN.out; unfold wrap64; omega⟩
            have m0 := eq_false hM.out
            have m1 : (m == 0) = false := beq_eq_false_iff_ne.mpr hM.out
            rw [hm] at H
            have p5 := eq_true (show 0 ≤ n by have := HN.out; omega)
            have p6 := eq_true (show n < 10 by have := HN.out; have := HN1.out; omega)
            have p3 := eq_true (show 0 ≤ h from HH.out.1)
            have p4 := eq_true (show h < 6 by have := HH1.out; omega)
            have x0 := q_at (m := 6) (M := 6) (a := n) (h := h) XL.out rfl (of_eq_true p5) (of_eq_true p3) (of_eq_true p4) (by have := of_eq_true p6; omega)
            obtain ⟨v, hv⟩ : ∃ v, rd xs (n * 6 + h) = v := ⟨_, rfl⟩
            rw [hv] at x0
            clear hv
            have H' := Aside0.mk H
            clear H
            have X1 := Aside0.mk x0
            have x1 := (blk_cell BK.out _).trans x0
            have f1 := blk_frozen BK.out (n.toNat * 6 + h.toNat)
            clear x0
            have n0_ := Aside0.mk (blk_drew BK.out)
            have n1_ := Aside0.mk (below_drew1 HB.out)
            go_wp2
            refine start_ (n := 10) (S := fun _ => True) (ds := [9]) #[false, false, false, false, false, false, false, false, false, false] (by kernel_rfl) rfl rfl trivial (fun hHeld => ?_)
            refine with_tabW impl_RootedRun.tab21 impl_RootedRun.bits21 (fun HT_ HW_ => ?_)
            generalize wr.drew = w5 at n0_ n1_ hHeld ⊢
            clear BK HB x1 f1
            have BK := n0_
            have HB := n1_
            clear n0_ n1_
            have x1 := (blk_cell BK.out _).trans X1.out
            have f1 := blk_frozen BK.out (n.toNat * 6 + h.toNat)
            refine pure_ (i := 0) (N := some 116) (v := ?_) (a' := ?_) #[true, false, false, false, false, false, false, false, false, false] rfl rfl (any_of HT_.out (by kernel_rfl)) (fun _ _ _ h => h) (Or.inl ⟨by rfl, ?_⟩) ?_ ?_
            rotate_left
            ·intro w'
             go_simp
             with_reducible rfl
            rotate_left
            ·simp only [Act.put, List.setIfInBounds_toArray, List.set_cons_zero, List.set_cons_succ, i64_w, i32_w]
             rfl
            refine pure_ (i := 1) (N := some 117) (v := ?_) (a' := ?_) #[true, true, false, false, false, false, false, false, false, false] rfl rfl (any_of HT_.out (by kernel_rfl)) (fun _ _ _ h => h) (Or.inl ⟨by rfl, ?_⟩) ?_ ?_
            rotate_left
            ·intro w'
             go_simp
             with_reducible rfl
            rotate_left
            ·simp only [Act.put, List.setIfInBounds_toArray, List.set_cons_zero, List.set_cons_succ, i64_w, i32_w]
             rfl
            refine pure_ (i := 2) (N := some 118) (v := ?_) (a' := ?_) #[true, true, true, false, false, false, false, false, false, false] rfl rfl (any_of HT_.out (by kernel_rfl)) (fun _ _ _ h => h) (Or.inl ⟨by rfl, ?_⟩) ?_ ?_
            rotate_left
            ·intro w'
             go_simp
             with_reducible rfl
            rotate_left
            ·simp only [Act.put, List.setIfInBounds_toArray, List.set_cons_zero, List.set_cons_succ, i64_w, i32_w]
             rfl
            refine pure_ (i := 3) (N := some 119) (v := ?_) (a' := ?_) #[true, true, true, true, false, false, false, false, false, false] rfl rfl (any_of HT_.out (by kernel_rfl)) (fun _ _ _ h => h) (Or.inl ⟨by rfl, ?_⟩) ?_ ?_
            rotate_left
            ·intro w'
             go_simp
             with_reducible rfl
            rotate_left
            ·simp only [Act.put, List.setIfInBounds_toArray, List.set_cons_zero, List.set_cons_succ, i64_w, i32_w]
             rfl
            refine pure_ (i := 4) (N := some 120) (v := ?_) (a' := ?_) #[true, true, true, true, true, false, false, false, false, false] rfl rfl (any_of HT_.out (by kernel_rfl)) (fun _ _ _ h => h) (Or.inl ⟨by rfl, ?_⟩) ?_ ?_
            rotate_left
            ·intro w'
             go_simp
             with_reducible rfl
            rotate_left
            ·simp only [Act.put, List.setIfInBounds_toArray, List.set_cons_zero, List.set_cons_succ, i64_w, i32_w]
             rfl
            refine pure_ (i := 5) (N := some 121) (v := ?_) (a' := ?_) #[true, true, true, true, true, true, false, false, false, false] rfl rfl (any_of HT_.out (by kernel_rfl)) (fun _ _ _ h => h) (Or.inl ⟨by rfl, ?_⟩) ?_ ?_
            rotate_left
            ·intro w'
             go_simp
             with_reducible rfl
            rotate_left
            ·simp only [Act.put, List.setIfInBounds_toArray, List.set_cons_zero, List.set_cons_succ, i64_w, i32_w]
             rfl
            refine pure_ (i := 6) (N := some 122) (v := ?_) (a' := ?_) #[true, true, true, true, true, true, true, false, false, false] rfl rfl (any_of HT_.out (by kernel_rfl)) (fun _ _ _ h => h) (Or.inl ⟨by rfl, ?_⟩) ?_ ?_
            rotate_left
            ·intro w'
             go_simp
             with_reducible rfl
            rotate_left
            ·simp only [Act.put, List.setIfInBounds_toArray, List.set_cons_zero, List.set_cons_succ, i64_w, i32_w]
             rfl
            refine pure_ (i := 7) (N := some 123) (v := ?_) (a' := ?_) #[true, true, true, true, true, true, true, true, false, false] rfl rfl (any_of HT_.out (by kernel_rfl)) (fun _ _ _ h => h) (Or.inl ⟨by rfl, ?_⟩) ?_ ?_
            rotate_left
            ·intro w'
             go_simp
             with_reducible rfl
            rotate_left
            ·simp only [Act.put, List.setIfInBounds_toArray, List.set_cons_zero, List.set_cons_succ, i64_w, i32_w]
             rfl
            refine pure_ (i := 8) (N := some 124) (v := ?_) (a' := ?_) #[true, true, true, true, true, true, true, true, true, false] rfl rfl (any_of HT_.out (by kernel_rfl)) (fun _ _ _ h => h) (Or.inl ⟨by rfl, ?_⟩) ?_ ?_
            rotate_left
            ·intro w'
             go_simp
             with_reducible rfl
            rotate_left
            ·simp only [Act.put, List.setIfInBounds_toArray, List.set_cons_zero, List.set_cons_succ, i64_w, i32_w]
             rfl
            refine last_ (i := 9) (N := none) #[true, true, true, true, true, true, true, true, true, true] rfl rfl (one_of HT_.out (by kernel_rfl)) (by decide) (fun K hK => ?_)
            refine skip_ (w1 := ?_) (by rfl) rfl ?_ ?_
            rotate_left
            ·go_simp
             rfl
            refine hK.out _ _ ?_
            clear hK K
            refine done_ (done_of HT_.out (by kernel_rfl)) ?_
            try go_wp2
            go_roundg k3
            case measure => have := HK2.out; have := HK1.out; omega
            case rel => exact ⟨wrap64 (h + 1), _, rfl, H', ⟨by have := HK2.out; have := HK1.out; omega⟩, ⟨by have := HH1.out; have := HH.out; unfold wrap64; omega⟩, ⟨by rw [List.length_set, XL.out]⟩, ⟨by (with_reducible repeat (first | apply blk_drewN | apply blk_drew | apply blk_alloc)); exact blk_put BK.out _ _ (ix_set _ _ _)⟩, ⟨by repeat (first | exact HB.out | apply pw_below_drewN | apply below_drew1 | refine below_set ?_ (Nat.le_refl _))⟩⟩

        ·rw [if_neg c4] at H
         have c4b : decide (1 ≤ h) = false := decide_eq_false c4
         clear c4
         have H' := Aside0.mk H
         clear H
         go_wp2
         repeat (go_quiet (fail); try go_wp2)
         go_loopg [8, 9] k2 (fun kq v8 v9 w' => ∃ (s q : Int), v8 = .int .i64 s ∧ v9 = .int .i64 q ∧ Aside0 (impl_RootedRun.l2 kq e g xs n h s q = some r) ∧ Aside0 (kq ≤ k2) ∧ Aside0 (1 ≤ q ∧ q ≤ n) ∧ Aside0 (w'.heap[w.heap.size]? = some (.cells (ix xs) 37 (0, 0))) ∧ Aside0 (Below w.heap.size w w'))
         case atStart => exact ⟨_, 1, rfl, rfl, H', ⟨Nat.le_refl _⟩, ⟨by have := HN.out; omega⟩, ⟨kP BK⟩, ⟨by repeat (first | exact HB.out | apply pw_below_drewN | apply below_drew1)⟩⟩
         case round =>
          clear H' BK HB
          obtain ⟨s, q, rfl, rfl, HA, HK2, HQ, BK, HB⟩ := hrel
          cases gk with
          | zero => exact absurd HA.out (by simp [impl_RootedRun.l2])
          | succ k3 =>
           have H := HA.out
           clear HA
           simp only [impl_RootedRun.l2] at H
           by_cases c5 : q < n
           ·rw [if_pos c5] at H
            have c5b : decide (q < n) = true := decide_eq_true c5
            have HQ1 := Aside0.mk c5
            clear c5
            have H' := Aside0.mk H
            clear H
            go_wp2
            go_loopg [8, 10] k3 (fun kq v8 v10 w' => ∃ (s i : Int), v8 = .int .i64 s ∧ v10 = .int .i64 i ∧ Aside0 (impl_RootedRun.l3 kq e g xs n h s q i = some r) ∧ Aside0 (kq ≤ k3) ∧ Aside0 (0 ≤ i ∧ i ≤ h + 1) ∧ Aside0 (w'.heap[w.heap.size]? = some (.cells (ix xs) 37 (0, 0))) ∧ Aside0 (Below w.heap.size w w'))
            case atStart => exact ⟨s, 0, rfl, rfl, H', ⟨Nat.le_refl _⟩, ⟨by have := HH.out; omega⟩, ⟨kP BK⟩, ⟨by repeat (first | exact HB.out | apply pw_below_drewN | apply below_drew1)⟩⟩
            case round =>
             clear H' BK HB
             clear s
             obtain ⟨s, i, rfl, rfl, HA, HK3, HI, BK, HB⟩ := hrel
             cases gk with
             | zero => exact absurd HA.out (by simp [impl_RootedRun.l3])
             | succ k4 =>
              have H := HA.out
              clear HA
              simp only [impl_RootedRun.l3] at H
              by_cases c6 : i ≤ h
              ·rw [if_pos c6] at H
               have c6b : decide (i ≤ h) = true := decide_eq_true c6
               have HI1 := Aside0.mk c6
               clear c6
               obtain ⟨a, ha⟩ : ∃ a, wrap64 (q - 1) = a := ⟨_, rfl⟩
               obtain ⟨c, hc⟩ : ∃ c, wrap64 (wrap64 (n - q) - 1) = c := ⟨_, rfl⟩
               obtain ⟨d, hd⟩ : ∃ d, wrap64 (h - i) = d := ⟨_, rfl⟩
               have hA : Aside0 (a = q - 1 ∧ c = n - q - 1 ∧ d = h - i) := ⟨by have := HN.out; have := HQ.out; have := HI.out; have := HH.out; exact ⟨by rw [← ha]; unfold wrap64; omega, by rw [← hc]; unfold wrap64; omega, by rw [← hd]; unfold wrap64; omega⟩⟩
               have p1 := eq_true (show 0 ≤ a by have := hA.out; have := HQ.out; omega)
               have p2 := eq_true (show a < 10 by have := hA.out; have := HQ.out; have := HN.out; omega)
               have p3 := eq_true (show 0 ≤ i from HI.out.1)
               have p4 := eq_true (show i < 6 by have := HI1.out; have := HH1.out; omega)
               have p5 := eq_true (show 0 ≤ c by have := hA.out; have := HQ1.out; omega)
               have p6 := eq_true (show c < 10 by have := hA.out; have := HQ.out; have := HN.out; omega)
               have p7 := eq_true (show 0 ≤ d by have := hA.out; have := HI1.out; omega)
               have p8 := eq_true (show d < 6 by have := hA.out; have := HI.out; have := HH1.out; omega)
               have x1 := (blk_cell BK.out _).trans (q_at (m := 6) (M := 6) (a := a) (h := i) XL.out rfl (of_eq_true p1) (of_eq_true p3) (of_eq_true p4) (by have := of_eq_true p2; omega))
               have x2 := (blk_cell BK.out _).trans (q_at (m := 6) (M := 6) (a := c) (h := d) XL.out rfl (of_eq_true p5) (of_eq_true p7) (of_eq_true p8) (by have := of_eq_true p6; omega))
               rw [ha, hc, hd] at H
               obtain ⟨v, hv⟩ : ∃ v, rd xs (a * 6 + i) = v := ⟨_, rfl⟩
               obtain ⟨u, hu⟩ : ∃ u, rd xs (c * 6 + d) = u := ⟨_, rfl⟩
               rw [hv] at x1 H
               rw [hu] at x2 H
               clear hv hu
               have H' := Aside0.mk H
               clear H
               go_wp2
               repeat (go_quiet (fail); try go_wp2)
               go_roundg k4
               case measure => have := HK3.out; omega
               case rel => exact ⟨_, wrap64 (i + 1), rfl, rfl, H', ⟨by have := HK3.out; omega⟩, ⟨by have := HI1.out; have := HI.out; have := HH.out; unfold wrap64; omega⟩, ⟨kP BK⟩, ⟨by repeat (first | exact HB.out | apply pw_below_drewN | apply below_drew1)⟩⟩
              ·rw [if_neg c6] at H
               have c6b : decide (i ≤ h) = false := decide_eq_false c6
               clear c6
               have H' := Aside0.mk H
               clear H
               go_wp2
               go_roundg k4
               case measure => have := HK3.out; have := HK2.out; omega
               case rel => exact ⟨s, wrap64 (q + 1), rfl, rfl, H', ⟨by have := HK3.out; have := HK2.out; omega⟩, ⟨by have := HQ1.out; have := HQ.out; have := HN.out; unfold wrap64; omega⟩, ⟨kP BK⟩, ⟨by repeat (first | exact HB.out | apply pw_below_drewN | apply below_drew1)⟩⟩
           ·rw [if_neg c5] at H
            have c5b : decide (q < n) = false := decide_eq_false c5
            clear c5
            obtain ⟨m, hm⟩ : ∃ m, wrap64 (2 * wrap64 (n + 1)) = m := ⟨_, rfl⟩
            have hM : Aside0 (m ≠ 0) := ⟨by rw [← hm]; have := HN.out; unfold wrap64; omega⟩
            have m0 := eq_false hM.out
            have m1 : (m == 0) = false := beq_eq_false_iff_ne.mpr hM.out
            rw [hm] at H
            have p5 := eq_true (show 0 ≤ n by have := HN.out; omega)
            have p6 := eq_true (show n < 10 by have := HN.out; have := HN1.out; omega)
            have p3 := eq_true (show 0 ≤ h from HH.out.1)
            have p4 := eq_true (show h < 6 by have := HH1.out; omega)
            have x0 := q_at (m := 6) (M := 6) (a := n) (h := h) XL.out rfl (of_eq_true p5) (of_eq_true p3) (of_eq_true p4) (by have := of_eq_true p6; omega)
            obtain ⟨v, hv⟩ : ∃ v, rd xs (n * 6 + h) = v := ⟨_, rfl⟩
            rw [hv] at x0
            clear hv
            have H' := Aside0.mk H
            clear H
            have X1 := Aside0.mk x0
            have x1 := (blk_cell BK.out _).trans x0
            have f1 := blk_frozen BK.out (n.toNat * 6 + h.toNat)
            clear x0
            have n0_ := Aside0.mk (blk_drew BK.out)
            have n1_ := Aside0.mk (below_drew1 HB.out)
            go_wp2
            refine start_ (n := 10) (S := fun _ => True) (ds := [9]) #[false, false, false, false, false, false, false, false, false, false] (by kernel_rfl) rfl rfl trivial (fun hHeld => ?_)
            refine with_tabW impl_RootedRun.tab21 impl_RootedRun.bits21 (fun HT_ HW_ => ?_)
            generalize wr.drew = w5 at n0_ n1_ hHeld ⊢
            clear BK HB x1 f1
            have BK := n0_
            have HB := n1_
            clear n0_ n1_
            have x1 := (blk_cell BK.out _).trans X1.out
            have f1 := blk_frozen BK.out (n.toNat * 6 + h.toNat)
            refine pure_ (i := 0) (N := some 116) (v := ?_) (a' := ?_) #[true, false, false, false, false, false, false, false, false, false] rfl rfl (any_of HT_.out (by kernel_rfl)) (fun _ _ _ h => h) (Or.inl ⟨by rfl, ?_⟩) ?_ ?_
            rotate_left
            ·intro w'
             go_simp
             with_reducible rfl
            rotate_left
            ·simp only [Act.put, List.setIfInBounds_toArray, List.set_cons_zero, List.set_cons_succ, i64_w, i32_w]
             rfl
            refine pure_ (i := 1) (N := some 117) (v := ?_) (a' := ?_) #[true, true, false, false, false, false, false, false, false, false] rfl rfl (any_of HT_.out (by kernel_rfl)) (fun _ _ _ h => h) (Or.inl ⟨by rfl, ?_⟩) ?_ ?_
            rotate_left
            ·intro w'
             go_simp
             with_reducible rfl
            rotate_left
            ·simp only [Act.put, List.setIfInBounds_toArray, List.set_cons_zero, List.set_cons_succ, i64_w, i32_w]
             rfl
            refine pure_ (i := 2) (N := some 118) (v := ?_) (a' := ?_) #[true, true, true, false, false, false, false, false, false, false] rfl rfl (any_of HT_.out (by kernel_rfl)) (fun _ _ _ h => h) (Or.inl ⟨by rfl, ?_⟩) ?_ ?_
            rotate_left
            ·intro w'
             go_simp
             with_reducible rfl
            rotate_left
            ·simp only [Act.put, List.setIfInBounds_toArray, List.set_cons_zero, List.set_cons_succ, i64_w, i32_w]
             rfl
            refine pure_ (i := 3) (N := some 119) (v := ?_) (a' := ?_) #[true, true, true, true, false, false, false, false, false, false] rfl rfl (any_of HT_.out (by kernel_rfl)) (fun _ _ _ h => h) (Or.inl ⟨by rfl, ?_⟩) ?_ ?_
            rotate_left
            ·intro w'
             go_simp
             with_reducible rfl
            rotate_left
            ·simp only [Act.put, List.setIfInBounds_toArray, List.set_cons_zero, List.set_cons_succ, i64_w, i32_w]
             rfl
            refine pure_ (i := 4) (N := some 120) (v := ?_) (a' := ?_) #[true, true, true, true, true, false, false, false, false, false] rfl rfl (any_of HT_.out (by kernel_rfl)) (fun _ _ _ h => h) (Or.inl ⟨by rfl, ?_⟩) ?_ ?_
            rotate_left
            ·intro w'
             go_simp
             with_reducible rfl
            rotate_left
            ·simp only [Act.put, List.setIfInBounds_toArray, List.set_cons_zero, List.set_cons_succ, i64_w, i32_w]
             rfl
            refine pure_ (i := 5) (N := some 121) (v := ?_) (a' := ?_) #[true, true, true, true, true, true, false, false, false, false] rfl rfl (any_of HT_.out (by kernel_rfl)) (fun _ _ _ h => h) (Or.inl ⟨by rfl, ?_⟩) ?_ ?_
            rotate_left
            ·intro w'
             go_simp
             with_reducible rfl
            rotate_left
            ·simp only [Act.put, List.setIfInBounds_toArray, List.set_cons_zero, List.set_cons_succ, i64_w, i32_w]
             rfl
            refine pure_ (i := 6) (N := some 122) (v := ?_) (a' := ?_) #[true, true, true, true, true, true, true, false, false, false] rfl rfl (any_of HT_.out (by kernel_rfl)) (fun _ _ _ h => h) (Or.inl ⟨by rfl, ?_⟩) ?_ ?_
            rotate_left
            ·intro w'
             go_simp
             with_reducible rfl
            rotate_left
            ·simp only [Act.put, List.setIfInBounds_toArray, List.set_cons_zero, List.set_cons_succ, i64_w, i32_w]
             rfl
            refine pure_ (i := 7) (N := some 123) (v := ?_) (a' := ?_) #[true, true, true, true, true, true, true, true, false, false] rfl rfl (any_of HT_.out (by kernel_rfl)) (fun _ _ _ h => h) (Or.inl ⟨by rfl, ?_⟩) ?_ ?_
            rotate_left
            ·intro w'
             go_simp
             with_reducible rfl
            rotate_left
            ·simp only [Act.put, List.setIfInBounds_toArray, List.set_cons_zero, List.set_cons_succ, i64_w, i32_w]
             rfl
            refine pure_ (i := 8) (N := some 124) (v := ?_) (a' := ?_) #[true, true, true, true, true, true, true, true, true, false] rfl rfl (any_of HT_.out (by kernel_rfl)) (fun _ _ _ h => h) (Or.inl ⟨by rfl, ?_⟩) ?_ ?_
            rotate_left
            ·intro w'
             go_simp
             with_reducible rfl
            rotate_left
            ·simp only [Act.put, List.setIfInBounds_toArray, List.set_cons_zero, List.set_cons_succ, i64_w, i32_w]
             rfl
            refine last_ (i := 9) (N := none) #[true, true, true, true, true, true, true, true, true, true] rfl rfl (one_of HT_.out (by kernel_rfl)) (by decide) (fun K hK => ?_)
            refine skip_ (w1 := ?_) (by rfl) rfl ?_ ?_
            rotate_left
            ·go_simp
             rfl
            refine hK.out _ _ ?_
            clear hK K
            refine done_ (done_of HT_.out (by kernel_rfl)) ?_
            try go_wp2
            go_roundg k3
            case measure => have := HK2.out; have := HK1.out; omega
            case rel => exact ⟨wrap64 (h + 1), _, rfl, H', ⟨by have := HK2.out; have := HK1.out; omega⟩, ⟨by have := HH1.out; have := HH.out; unfold wrap64; omega⟩, ⟨by rw [List.length_set, XL.out]⟩, ⟨by (with_reducible repeat (first | apply blk_drewN | apply blk_drew | apply blk_alloc)); exact blk_put BK.out _ _ (ix_set _ _ _)⟩, ⟨by repeat (first | exact HB.out | apply pw_below_drewN | apply below_drew1 | refine below_set ?_ (Nat.le_refl _))⟩⟩

       ·rw [if_neg c3] at H
        have c3b : decide (2 ≤ n) = false := decide_eq_false c3
        clear c3
        have H' := Aside0.mk H
        clear H
        go_wp2
        repeat (go_quiet (fail); try go_wp2)
        go_loopg [8, 9] k2 (fun kq v8 v9 w' => ∃ (s q : Int), v8 = .int .i64 s ∧ v9 = .int .i64 q ∧ Aside0 (impl_RootedRun.l2 kq e g xs n h s q = some r) ∧ Aside0 (kq ≤ k2) ∧ Aside0 (1 ≤ q ∧ q ≤ n) ∧ Aside0 (w'.heap[w.heap.size]? = some (.cells (ix xs) 37 (0, 0))) ∧ Aside0 (Below w.heap.size w w'))
        case atStart => exact ⟨_, 1, rfl, rfl, H', ⟨Nat.le_refl _⟩, ⟨by have := HN.out; omega⟩, ⟨kP BK⟩, ⟨by repeat (first | exact HB.out | apply pw_below_drewN | apply below_drew1)⟩⟩
        case round =>
         clear H' BK HB
         obtain ⟨s, q, rfl, rfl, HA, HK2, HQ, BK, HB⟩ := hrel
         cases gk with
         | zero => exact absurd HA.out (by simp [impl_RootedRun.l2])
         | succ k3 =>
          have H := HA.out
          clear HA
          simp only [impl_RootedRun.l2] at H
          by_cases c5 : q < n
          ·rw [if_pos c5] at H
           have c5b : decide (q < n) = true := decide_eq_true c5
           have HQ1 := Aside0.mk c5
           clear c5
           have H' := Aside0.mk H
           clear H
           go_wp2
           go_loopg [8, 10] k3 (fun kq v8 v10 w' => ∃ (s i : Int), v8 = .int .i64 s ∧ v10 = .int .i64 i ∧ Aside0 (impl_RootedRun.l3 kq e g xs n h s q i = some r) ∧ Aside0 (kq ≤ k3) ∧ Aside0 (0 ≤ i ∧ i ≤ h + 1) ∧ Aside0 (w'.heap[w.heap.size]? = some (.cells (ix xs) 37 (0, 0))) ∧ Aside0 (Below w.heap.size w w'))
           case atStart => exact ⟨s, 0, rfl, rfl, H', ⟨Nat.le_refl _⟩, ⟨by have := HH.out; omega⟩, ⟨kP BK⟩, ⟨by repeat (first | exact HB.out | apply pw_below_drewN | apply below_drew1)⟩⟩
           case round =>
            clear H' BK HB
            clear s
            obtain ⟨s, i, rfl, rfl, HA, HK3, HI, BK, HB⟩ := hrel
            cases gk with
            | zero => exact absurd HA.out (by simp [impl_RootedRun.l3])
            | succ k4 =>
             have H := HA.out
             clear HA
             simp only [impl_RootedRun.l3] at H
             by_cases c6 : i ≤ h
             ·rw [if_pos c6] at H
              have c6b : decide (i ≤ h) = true := decide_eq_true c6
              have HI1 := Aside0.mk c6
              clear c6
              obtain ⟨a, ha⟩ : ∃ a, wrap64 (q - 1) = a := ⟨_, rfl⟩
              obtain ⟨c, hc⟩ : ∃ c, wrap64 (wrap64 (n - q) - 1) = c := ⟨_, rfl⟩
              obtain ⟨d, hd⟩ : ∃ d, wrap64 (h - i) = d := ⟨_, rfl⟩
              have hA : Aside0 (a = q - 1 ∧ c = n - q - 1 ∧ d = h - i) := ⟨by have := HN.out; have := HQ.out; have := HI.out; have := HH.out; exact ⟨by rw [← ha]; unfold wrap64; omega, by rw [← hc]; unfold wrap64; omega, by rw [← hd]; unfold wrap64; omega⟩⟩
              have p1 := eq_true (show 0 ≤ a by have := hA.out; have := HQ.out; omega)
              have p2 := eq_true (show a < 10 by have := hA.out; have := HQ.out; have := HN.out; omega)
              have p3 := eq_true (show 0 ≤ i from HI.out.1)
              have p4 := eq_true (show i < 6 by have := HI1.out; have := HH1.out; omega)
              have p5 := eq_true (show 0 ≤ c by have := hA.out; have := HQ1.out; omega)
              have p6 := eq_true (show c < 10 by have := hA.out; have := HQ.out; have := HN.out; omega)
              have p7 := eq_true (show 0 ≤ d by have := hA.out; have := HI1.out; omega)
              have p8 := eq_true (show d < 6 by have := hA.out; have := HI.out; have := HH1.out; omega)
              have x1 := (blk_cell BK.out _).trans (q_at (m := 6) (M := 6) (a := a) (h := i) XL.out rfl (of_eq_true p1) (of_eq_true p3) (of_eq_true p4) (by have := of_eq_true p2; omega))
              have x2 := (blk_cell BK.out _).trans (q_at (m := 6) (M := 6) (a := c) (h := d) XL.out rfl (of_eq_true p5) (of_eq_true p7) (of_eq_true p8) (by have := of_eq_true p6; omega))
              rw [ha, hc, hd] at H
              obtain ⟨v, hv⟩ : ∃ v, rd xs (a * 6 + i) = v := ⟨_, rfl⟩
              obtain ⟨u, hu⟩ : ∃ u, rd xs (c * 6 + d) = u := ⟨_, rfl⟩
              rw [hv] at x1 H
              rw [hu] at x2 H
              clear hv hu
              have H' := Aside0.mk H
              clear H
              go_wp2
              repeat (go_quiet (fail); try go_wp2)
              go_roundg k4
              case measure => have := HK3.out; omega
              case rel => exact ⟨_, wrap64 (i + 1), rfl, rfl, H', ⟨by have := HK3.out; omega⟩, ⟨by have := HI1.out; have := HI.out; have := HH.out; unfold wrap64; omega⟩, ⟨kP BK⟩, ⟨by repeat (first | exact HB.out | apply pw_below_drewN | apply below_drew1)⟩⟩
             ·rw [if_neg c6] at H
              have c6b : decide (i ≤ h) = false := decide_eq_false c6
              clear c6
              have H' := Aside0.mk H
              clear H
              go_wp2
              go_roundg k4
              case measure => have := HK3.out; have := HK2.out; omega
              case rel => exact ⟨s, wrap64 (q + 1), rfl, rfl, H', ⟨by have := HK3.out; have := HK2.out; omega⟩, ⟨by have := HQ1.out; have := HQ.out; have := HN.out; unfold wrap64; omega⟩, ⟨kP BK⟩, ⟨by repeat (first | exact HB.out | apply pw_below_drewN | apply below_drew1)⟩⟩
          ·rw [if_neg c5] at H
           have c5b : decide (q < n) = false := decide_eq_false c5
           clear c5
           obtain ⟨m, hm⟩ : ∃ m, wrap64 (2 * wrap64 (n + 1)) = m := ⟨_, rfl⟩
           have hM : Aside0 (m ≠ 0) := ⟨by rw [← hm]; have := HN.out; unfold wrap64; omega⟩
           have m0 := eq_false hM.out
           have m1 : (m == 0) = false := beq_eq_false_iff_ne.mpr hM.out
           rw [hm] at H
           have p5 := eq_true (show 0 ≤ n by have := HN.out; omega)
           have p6 := eq_true (show n < 10 by have := HN.out; have := HN1.out; omega)
           have p3 := eq_true (show 0 ≤ h from HH.out.1)
           have p4 := eq_true (show h < 6 by have := HH1.out; omega)
           have x0 := q_at (m := 6) (M := 6) (a := n) (h := h) XL.out rfl (of_eq_true p5) (of_eq_true p3) (of_eq_true p4) (by have := of_eq_true p6; omega)
           obtain ⟨v, hv⟩ : ∃ v, rd xs (n * 6 + h) = v := ⟨_, rfl⟩
           rw [hv] at x0
           clear hv
           have H' := Aside0.mk H
           clear H
           have X1 := Aside0.mk x0
           have x1 := (blk_cell BK.out _).trans x0
           have f1 := blk_frozen BK.out (n.toNat * 6 + h.toNat)
           clear x0
           have n0_ := Aside0.mk (blk_drew BK.out)
           have n1_ := Aside0.mk (below_drew1 HB.out)
           go_wp2
           refine start_ (n := 10) (S := fun _ => True) (ds := [9]) #[false, false, false, false, false, false, false, false, false, false] (by kernel_rfl) rfl rfl trivial (fun hHeld => ?_)
           refine with_tabW impl_RootedRun.tab21 impl_RootedRun.bits21 (fun HT_ HW_ => ?_)
           generalize wr.drew = w5 at n0_ n1_ hHeld ⊢
           clear BK HB x1 f1
           have BK := n0_
           have HB := n1_
           clear n0_ n1_
           have x1 := (blk_cell BK.out _).trans X1.out
           have f1 := blk_frozen BK.out (n.toNat * 6 + h.toNat)
           refine pure_ (i := 0) (N := some 116) (v := ?_) (a' := ?_) #[true, false, false, false, false, false, false, false, false, false] rfl rfl (any_of HT_.out (by kernel_rfl)) (fun _ _ _ h => h) (Or.inl ⟨by rfl, ?_⟩) ?_ ?_
           rotate_left
           ·intro w'
            go_simp
            with_reducible rfl
           rotate_left
           ·simp only [Act.put, List.setIfInBounds_toArray, List.set_cons_zero, List.set_cons_succ, i64_w, i32_w]
            rfl
           refine pure_ (i := 1) (N := some 117) (v := ?_) (a' := ?_) #[true, true, false, false, false, false, false, false, false, false] rfl rfl (any_of HT_.out (by kernel_rfl)) (fun _ _ _ h => h) (Or.inl ⟨by rfl, ?_⟩) ?_ ?_
           rotate_left
           ·intro w'
            go_simp
            with_reducible rfl
           rotate_left
           ·simp only [Act.put, List.setIfInBounds_toArray, List.set_cons_zero, List.set_cons_succ, i64_w, i32_w]
            rfl
           refine pure_ (i := 2) (N := some 118) (v := ?_) (a' := ?_) #[true, true, true, false, false, false, false, false, false, false] rfl rfl (any_of HT_.out (by kernel_rfl)) (fun _ _ _ h => h) (Or.inl ⟨by rfl, ?_⟩) ?_ ?_
           rotate_left
           ·intro w'
            go_simp
            with_reducible rfl
           rotate_left
           ·simp only [Act.put, List.setIfInBounds_toArray, List.set_cons_zero, List.set_cons_succ, i64_w, i32_w]
            rfl
           refine pure_ (i := 3) (N := some 119) (v := ?_) (a' := ?_) #[true, true, true, true, false, false, false, false, false, false] rfl rfl (any_of HT_.out (by kernel_rfl)) (fun _ _ _ h => h) (Or.inl ⟨by rfl, ?_⟩) ?_ ?_
           rotate_left
           ·intro w'
            go_simp
            with_reducible rfl
           rotate_left
           ·simp only [Act.put, List.setIfInBounds_toArray, List.set_cons_zero, List.set_cons_succ, i64_w, i32_w]
            rfl
           refine pure_ (i := 4) (N := some 120) (v := ?_) (a' := ?_) #[true, true, true, true, true, false, false, false, false, false] rfl rfl (any_of HT_.out (by kernel_rfl)) (fun _ _ _ h => h) (Or.inl ⟨by rfl, ?_⟩) ?_ ?_
           rotate_left
           ·intro w'
            go_simp
            with_reducible rfl
           rotate_left
           ·simp only [Act.put, List.setIfInBounds_toArray, List.set_cons_zero, List.set_cons_succ, i64_w, i32_w]
            rfl
           refine pure_ (i := 5) (N := some 121) (v := ?_) (a' := ?_) #[true, true, true, true, true, true, false, false, false, false] rfl rfl (any_of HT_.out (by kernel_rfl)) (fun _ _ _ h => h) (Or.inl ⟨by rfl, ?_⟩) ?_ ?_
           rotate_left
           ·intro w'
            go_simp
            with_reducible rfl
           rotate_left
           ·simp only [Act.put, List.setIfInBounds_toArray, List.set_cons_zero, List.set_cons_succ, i64_w, i32_w]
            rfl
           refine pure_ (i := 6) (N := some 122) (v := ?_) (a' := ?_) #[true, true, true, true, true, true, true, false, false, false] rfl rfl (any_of HT_.out (by kernel_rfl)) (fun _ _ _ h => h) (Or.inl ⟨by rfl, ?_⟩) ?_ ?_
           rotate_left
           ·intro w'
            go_simp
            with_reducible rfl
           rotate_left
           ·simp only [Act.put, List.setIfInBounds_toArray, List.set_cons_zero, List.set_cons_succ, i64_w, i32_w]
            rfl
           refine pure_ (i := 7) (N := some 123) (v := ?_) (a' := ?_) #[true, true, true, true, true, true, true, true, false, false] rfl rfl (any_of HT_.out (by kernel_rfl)) (fun _ _ _ h => h) (Or.inl ⟨by rfl, ?_⟩) ?_ ?_
           rotate_left
           ·intro w'
            go_simp
            with_reducible rfl
           rotate_left
           ·simp only [Act.put, List.setIfInBounds_toArray, List.set_cons_zero, List.set_cons_succ, i64_w, i32_w]
            rfl
           refine pure_ (i := 8) (N := some 124) (v := ?_) (a' := ?_) #[true, true, true, true, true, true, true, true, true, false] rfl rfl (any_of HT_.out (by kernel_rfl)) (fun _ _ _ h => h) (Or.inl ⟨by rfl, ?_⟩) ?_ ?_
           rotate_left
           ·intro w'
            go_simp
            with_reducible rfl
           rotate_left
           ·simp only [Act.put, List.setIfInBounds_toArray, List.set_cons_zero, List.set_cons_succ, i64_w, i32_w]
            rfl
           refine last_ (i := 9) (N := none) #[true, true, true, true, true, true, true, true, true, true] rfl rfl (one_of HT_.out (by kernel_rfl)) (by decide) (fun K hK => ?_)
           refine skip_ (w1 := ?_) (by rfl) rfl ?_ ?_
           rotate_left
           ·go_simp
            rfl
           refine hK.out _ _ ?_
           clear hK K
           refine done_ (done_of HT_.out (by kernel_rfl)) ?_
           try go_wp2
           go_roundg k3
           case measure => have := HK2.out; have := HK1.out; omega
           case rel => exact ⟨wrap64 (h + 1), _, rfl, H', ⟨by have := HK2.out; have := HK1.out; omega⟩, ⟨by have := HH1.out; have := HH.out; unfold wrap64; omega⟩, ⟨by rw [List.length_set, XL.out]⟩, ⟨by (with_reducible repeat (first | apply blk_drewN | apply blk_drew | apply blk_alloc)); exact blk_put BK.out _ _ (ix_set _ _ _)⟩, ⟨by repeat (first | exact HB.out | apply pw_below_drewN | apply below_drew1 | refine below_set ?_ (Nat.le_refl _))⟩⟩

      ·rw [if_neg c2] at H
       have c2b : decide (h ≤ g) = false := decide_eq_false c2
       clear c2
       have H' := Aside0.mk H
       clear H
       go_wp2
       go_roundg k2
       case measure => have := HK1.out; have := HK.out; omega
       case rel => exact ⟨wrap64 (n + 1), xs, rfl, H', ⟨by have := HK1.out; have := HK.out; omega⟩, ⟨by have := HN.out; have := HN1.out; unfold wrap64; omega⟩, XL, ⟨kP BK⟩, ⟨by repeat (first | exact HB.out | apply pw_below_drewN | apply below_drew1)⟩⟩
   ·rw [if_neg c1] at H
    have c1b : decide (n ≤ e) = false := decide_eq_false c1
    clear c1
    have p5 := eq_true (show 0 ≤ e from HE.out.1.1)
    have p6 := eq_true (show e < 10 by have := HE.out; omega)
    have p3 := eq_true (show 0 ≤ g from HE.out.2.1)
    have p4 := eq_true (show g < 6 by have := HE.out; omega)
    have x1 := (blk_cell BK.out _).trans (q_at (m := 6) (M := 6) (a := e) (h := g) XL.out rfl (of_eq_true p5) (of_eq_true p3) (of_eq_true p4) (by have := of_eq_true p6; omega))
    obtain rfl := Option.some.inj H
    clear H
    go_wp2
    go_ret
    exact ⟨rfl, by repeat (first | exact HB.out | apply pw_below_drewN | apply below_drew1)⟩

end Go.Proofs.Ytcclnblabaoofaa.F
