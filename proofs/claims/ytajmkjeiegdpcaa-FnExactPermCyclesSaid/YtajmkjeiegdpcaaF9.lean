/- Contracts: what these Go functions return. -/
import Derived.Test.YtajmkjeiegdpcaaF0
import Derived.Test.YtajmkjeiegdpcaaF3
import Derived.Test.YtajmkjeiegdpcaaF6
import Derived.Test.YtajmkjeiegdpcaaF7
import Derived.Test.YtajmkjeiegdpcaaF8
namespace Go.Proofs.Ytajmkjeiegdpcaa.F
open Go.RowKit Go.Proofs.YtajmkjeiegdpcaaW.PrintWords Go.Proofs.YtajmkjeiegdpcaaW.PrintLast Go.Proofs.YtajmkjeiegdpcaaW.PrintMore
attribute [local go_sem] max2_int min2_int max_two min_two max_three min_three max_four min_four
set_option linter.unusedVariables false
set_option linter.unusedSimpArgs false

/-! ### laws_FnExactPermCycles: function 3 -/
mutual
def laws_FnExactPermCycles.j0 : Nat → List Int → List (List Int) → Bool → List Int → List (List Int) → Bool → Bool → Option (Bool)
 | 0, _, _, _, _, _, _, _ => none
 | k + 1, x0, x3, x4, x5, x6, x7, x37 => if x37 = true then (some false) else ((laws_toIntS.f k x0).bind fun t183 => ((laws_eqIntS.f k x5 t183).bind fun t186 => (if t186 = true then ((laws_markIntS.f k x5 1).bind fun bt187 => (if bt187.1 < 0 then (laws_FnExactPermCycles.j1 k x0 x3 x4 x6 true) else ((laws_eqIntSS.f k x6 x3).bind fun t189 => (if t189 = true then (laws_FnExactPermCycles.j1 k x0 x3 x4 x6 (x7 != x4)) else (laws_FnExactPermCycles.j1 k x0 x3 x4 x6 true))))) else (some false))))
def laws_FnExactPermCycles.j1 : Nat → List Int → List (List Int) → Bool → List (List Int) → Bool → Option (Bool)
 | 0, _, _, _, _, _ => none
 | k + 1, x0, x3, x4, x6, x58 => if x58 = true then (some false) else ((laws_markIntSS.f k x6 1).bind fun bt190 => ((laws_heldIntSS.f k bt190.2 1).bind fun t191 => (if t191 < 0 then (some false) else (if t191 = bt190.1 then ((laws_toIntS.f k x0).bind fun t192 => ((impl_PermCycles.f k t192).bind fun bt195 => ((laws_eqIntSS.f k bt195.1 x3).bind fun t199 => (if t199 = true then (laws_FnExactPermCycles.j2 k bt190.2 bt190.1 (bt195.2 != x4)) else (laws_FnExactPermCycles.j2 k bt190.2 bt190.1 true))))) else (some false)))))
def laws_FnExactPermCycles.j2 : Nat → List (List Int) → Int → Bool → Option (Bool)
 | 0, _, _, _ => none
 | k + 1, x6, x9, x84 => if x84 = true then (some false) else ((laws_heldIntSS.f k x6 1).bind fun t200 => (if t200 < 0 then (some false) else (if t200 = x9 then (some true) else (some false))))
end
def laws_FnExactPermCycles.f (k : Nat) (l0 : List Int) : Option (Bool) := if (l0.length : Int) > 1048576 then (some true) else ((laws_toIntS.f k l0).bind fun t168 => ((spec_PermCycles.f k t168).bind fun bt171 => ((laws_toIntS.f k l0).bind fun t175 => ((impl_PermCycles.f k t175).bind fun bt178 => ((laws_eqIntSS.f k bt178.1 bt171.1).bind fun t182 => (if t182 = true then (laws_FnExactPermCycles.j0 k l0 bt171.1 bt171.2 t175 bt178.1 bt178.2 (bt178.2 != bt171.2)) else (laws_FnExactPermCycles.j0 k l0 bt171.1 bt171.2 t175 bt178.1 bt178.2 true)))))))
set_option maxHeartbeats 8000000 in
set_option maxRecDepth 100000 in
theorem laws_FnExactPermCycles.calls (k : Nat) (A0 : Option Addr) (c0 : Nat) (l0 : List Int) (r : Bool) (w : World) (hr0 : Kd.C (Kd.int .i64) w A0 l0.length l0) (hc0 : l0.length ≤ c0) (hr_ : Aside0 (r = true)) (h : laws_FnExactPermCycles.f k l0 = some r) :
 Calls Try.prog 3 #[.slice A0 l0.length c0] w fun e w' => e = .returned (.bool r) ∧ Below w.heap.size w w' := by
 have HR0 := Aside0.mk hr0
 have HC0 := Aside0.mk hc0
 clear hr0 hc0
 have HB := Aside0.mk (Below.refl w.heap.size w)
 have H : (if (l0.length : Int) > 1048576 then (some true) else ((laws_toIntS.f k l0).bind fun t168 => ((spec_PermCycles.f k t168).bind fun bt171 => ((laws_toIntS.f k l0).bind fun t175 => ((impl_PermCycles.f k t175).bind fun bt178 => ((laws_eqIntSS.f k bt178.1 bt171.1).bind fun t182 => (if t182 = true then (laws_FnExactPermCycles.j0 k l0 bt171.1 bt171.2 t175 bt178.1 bt178.2 (bt178.2 != bt171.2)) else (laws_FnExactPermCycles.j0 k l0 bt171.1 bt171.2 t175 bt178.1 bt178.2 true)))))))) = some r := h
 clear h
 by_cases c2 : (l0.length : Int) > 1048576
 ·rw [if_pos c2] at H
  have c2b0 : decide (1048576 < (l0.length : Int)) = true := decide_eq_true c2
  have c2b1 : decide (1048576 < l0.length) = true := decide_eq_true (by omega)
  clear c2
  obtain rfl := Option.some.inj H
  go_enter Try.func3, Try.ntmps3
  go_wp2
  go_ret
  exact ⟨eR, bP HB⟩
 ·rw [if_neg c2] at H
  have c2b0 : decide (1048576 < (l0.length : Int)) = false := decide_eq_false c2
  have c2b1 : decide (1048576 < l0.length) = false := decide_eq_false (by omega)
  clear c2
  replace H := Option.bind_eq_some_iff.mp H
  obtain ⟨t168, A30, H⟩ := H
  replace H : ((spec_PermCycles.f k t168).bind fun bt171 => ((laws_toIntS.f k l0).bind fun t175 => ((impl_PermCycles.f k t175).bind fun bt178 => ((laws_eqIntSS.f k bt178.1 bt171.1).bind fun t182 => (if t182 = true then (laws_FnExactPermCycles.j0 k l0 bt171.1 bt171.2 t175 bt178.1 bt178.2 (bt178.2 != bt171.2)) else (laws_FnExactPermCycles.j0 k l0 bt171.1 bt171.2 t175 bt178.1 bt178.2 true)))))) = some r := H
  have A3 := Aside0.mk A30
  clear A30
  replace H := Option.bind_eq_some_iff.mp H
  obtain ⟨⟨t171, t172⟩, A40, H⟩ := H
  replace H : ((laws_toIntS.f k l0).bind fun t175 => ((impl_PermCycles.f k t175).bind fun bt178 => ((laws_eqIntSS.f k bt178.1 t171).bind fun t182 => (if t182 = true then (laws_FnExactPermCycles.j0 k l0 t171 t172 t175 bt178.1 bt178.2 (bt178.2 != t172)) else (laws_FnExactPermCycles.j0 k l0 t171 t172 t175 bt178.1 bt178.2 true))))) = some r := H
  have A4 := Aside0.mk A40
  clear A40
  replace H := Option.bind_eq_some_iff.mp H
  obtain ⟨t175, A50, H⟩ := H
  replace H : ((impl_PermCycles.f k t175).bind fun bt178 => ((laws_eqIntSS.f k bt178.1 t171).bind fun t182 => (if t182 = true then (laws_FnExactPermCycles.j0 k l0 t171 t172 t175 bt178.1 bt178.2 (bt178.2 != t172)) else (laws_FnExactPermCycles.j0 k l0 t171 t172 t175 bt178.1 bt178.2 true)))) = some r := H
  have A5 := Aside0.mk A50
  clear A50
  replace H := Option.bind_eq_some_iff.mp H
  obtain ⟨⟨t178, t179⟩, A60, H⟩ := H
  replace H : ((laws_eqIntSS.f k t178 t171).bind fun t182 => (if t182 = true then (laws_FnExactPermCycles.j0 k l0 t171 t172 t175 t178 t179 (t179 != t172)) else (laws_FnExactPermCycles.j0 k l0 t171 t172 t175 t178 t179 true))) = some r := H
  have A6 := Aside0.mk A60
  clear A60
  have HC7 := Aside0.mk H
  clear H
  go_enter Try.func3, Try.ntmps3
  go_upto_region 6 with (first | ((with_reducible refine gate_callee (f := 9) rfl ?_); refine gL (some 18) Try.func9 #[.slice A0 l0.length c0] ?_; (with_reducible refine (laws_toIntS.calls k _ _ l0 t168 _ ?side1 ?side2 A3.out).mono ?_); (case side1 => repeat (first | exact HR0.out | (with_reducible refine Kd.C_alloc ?_ _) | (with_reducible refine Kd.C_drewN ?_ _) | (with_reducible refine Kd.C_drew ?_))); (case side2 => exact HC0.out); rintro e w8 ⟨v169, rfl, ho0, hb⟩; refine ⟨_, rfl, ?_⟩; have HO170 := rL ho0 HB; replace HB := bS HB hb; (try clear hb); (try clear hb2); (try clear hk); (try clear hi); (try clear ho0); obtain ⟨Ao9, co9, eo9⟩ := Kd.R_slice HO170.out; subst eo9) | ((with_reducible refine gate_callee (f := 8) rfl ?_); refine gL (some 19) Try.func8 #[.slice Ao9 t168.length co9] ?_; (with_reducible refine (spec_PermCycles.calls k _ _ t168 t171 t172 _ ?side1 ?side2 A4.out).mono ?_); (case side1 => exact cP (Kd.R_reads' HO170.out).2.2); (case side2 => exact (Kd.R_reads' HO170.out).2.1); rintro e w10 ⟨v173, rfl, ho0, hb⟩; refine ⟨_, rfl, ?_⟩; have HO174 := Aside0.mk (Kd.S_lower (Kd.S_new' ho0 (Kd.R_lt (rP HO170))) (below_size (bP HB))); replace HO170 := rB HO170 hb; replace HB := bS HB hb; (try clear hb); (try clear hb2); (try clear hk); (try clear hi); (try clear ho0)) | ((with_reducible refine gate_callee (f := 9) rfl ?_); refine gL (some 23) Try.func9 #[.slice A0 l0.length c0] ?_; (with_reducible refine (laws_toIntS.calls k _ _ l0 t175 _ ?side1 ?side2 A5.out).mono ?_); (case side1 => exact cB HR0 HB); (case side2 => exact HC0.out); rintro e w11 ⟨v176, rfl, ho0, hb⟩; refine ⟨_, rfl, ?_⟩; replace HO174 := Aside0.mk (Kd.S_elder' (by (with_reducible repeat (first | apply Kd.S_alloc | apply Kd.S_drewN | apply Kd.S_drew)); exact HO174.out) (Kd.R_base ho0) hb); have HO177 := Aside0.mk (Kd.R_lower (Kd.R_new' ho0 (Kd.R_lt (rP HO170))) (below_size (bP HB))); replace HO170 := Aside0.mk (Kd.R_elder' (rP HO170) (Kd.R_base ho0) hb); replace HB := bS HB hb; (try clear hb); (try clear hb2); (try clear hk); (try clear hi); (try clear ho0); obtain ⟨Ao12, co12, eo12⟩ := Kd.R_slice HO177.out; subst eo12) | ((with_reducible refine gate_callee (f := 10) rfl ?_); refine gL (some 26) Try.func10 #[.slice Ao12 t175.length co12] ?_; (with_reducible refine (impl_PermCycles.calls k _ _ t175 t178 t179 _ ?side1 ?side2 A6.out).mono ?_); (case side1 => exact cP (Kd.R_reads' HO177.out).2.2); (case side2 => exact (Kd.R_reads' HO177.out).2.1); rintro e w13 ⟨v180, rfl, ho0, hb⟩; refine ⟨_, rfl, ?_⟩; have n0_ := rB HO170 hb; have n2_ := rB HO177 hb; have q1_ := Kd.S_told (Kd.S_old (by (with_reducible repeat (first | apply Kd.S_alloc | apply Kd.S_drewN | apply Kd.S_drew)); exact HO174.out) hb) (Kd.S_base ho0); have q3_ := Kd.S_bound (Kd.S_new' (Kd.S_new' (Kd.S_new' ho0 (Kd.R_lt (rP HO170))) (Kd.S_lt (by (with_reducible repeat (first | apply Kd.S_alloc | apply Kd.S_drewN | apply Kd.S_drew)); exact HO174.out))) (Kd.R_lt (rP HO177))); obtain ⟨N, n1_, n3_⟩ : ∃ N : Nat, Aside0 (Kd.S (Kd.slice 3 (Kd.int .i64)) 22 w13 w.heap.size (fun k_ => (oN k_ Ao12 t175 co12 ∧ some k_ ≠ (v180 : Value).ownBlock) ∧ k_ < N) v173 t171) ∧ Aside0 (Kd.S (Kd.slice 3 (Kd.int .i64)) 22 w13 w.heap.size (fun k_ => (some k_ ≠ (v173 : Value).ownBlock ∧ oN k_ Ao12 t175 co12) ∧ N ≤ k_) v180 t178) := ⟨_, ⟨Kd.S_mono q1_ (fun _ hk => ⟨⟨hk.1.1.2, hk.1.2⟩, hk.2⟩)⟩, ⟨Kd.S_lower (Kd.S_mono q3_ (fun _ hk => ⟨⟨hk.1.1.2, hk.1.2⟩, hk.2.1⟩)) (below_size (bP HB))⟩⟩; clear q1_ q3_; have n4_ := bS HB hb; clear HO170; clear HO174; clear HO177; clear HB; have HO170 := n0_; have HO174 := n1_; have HO177 := n2_; have HO181 := n3_; have HB := n4_; clear n0_ n1_ n2_ n3_ n4_; (try clear hb); (try clear hb2); (try clear hk); (try clear hi); (try clear ho0)))
  (try simp only [Act.put, List.setIfInBounds_toArray, List.set_cons_zero, List.set_cons_succ])
  go_cut [37] (fun v37 wc => ∃ (kq : Nat) (x37_6 : Bool), v37 = .bool x37_6 ∧ Aside0 (laws_FnExactPermCycles.j0 kq l0 t171 t172 t175 t178 t179 x37_6 = some r) ∧ Aside0 (kq ≤ k) ∧ Aside0 (Kd.S (Kd.slice 3 (Kd.int .i64)) 22 wc w.heap.size (fun k_ => (oN k_ Ao12 t175 co12 ∧ some k_ ≠ (v180 : Value).ownBlock) ∧ k_ < N) v173 t171) ∧ Aside0 (Kd.R (Kd.int .i64) 3 wc w.heap.size (fun _ => True) (.slice Ao12 t175.length co12) t175) ∧ Aside0 (Kd.S (Kd.slice 3 (Kd.int .i64)) 22 wc w.heap.size (fun k_ => (some k_ ≠ (v173 : Value).ownBlock ∧ oN k_ Ao12 t175 co12) ∧ N ≤ k_) v180 t178) ∧ Aside0 (Below w.heap.size w wc))
  case first =>
   have H := HC7.out
   clear HC7
   replace H := Option.bind_eq_some_iff.mp H
   obtain ⟨t182, A140, H⟩ := H
   replace H : (if t182 = true then (laws_FnExactPermCycles.j0 k l0 t171 t172 t175 t178 t179 (t179 != t172)) else (laws_FnExactPermCycles.j0 k l0 t171 t172 t175 t178 t179 true)) = some r := H
   have A14 := Aside0.mk A140
   clear A140
   by_cases c15 : t182 = true
   ·subst c15
    have H1 : (laws_FnExactPermCycles.j0 k l0 t171 t172 t175 t178 t179 (t179 != t172)) = some r := by rw [if_pos rfl] at H; exact H
    clear H
    have H := H1
    clear H1
    have H' := Aside0.mk H
    clear H
    obtain ⟨Ao16, co16, eo16⟩ := Kd.S_slice HO181.out
    subst eo16
    obtain ⟨Ao17, co17, eo17⟩ := Kd.S_slice HO174.out
    subst eo17
    go_wp2_with (first | ((with_reducible refine gate_callee (f := 11) rfl ?_); refine gL (some 31) Try.func11 #[.slice Ao16 t178.length co16, .slice Ao17 t171.length co17] ?_; (with_reducible refine (laws_eqIntSS.calls k _ _ t178 _ _ t171 true _ ?side1 ?side2 ?side3 ?side4 A14.out).mono ?_); (case side1 => exact cP (Kd.S_reads' HO181.out).2.2); (case side2 => exact (Kd.S_reads' HO181.out).2.1); (case side3 => exact cP (Kd.S_reads' HO174.out).2.2); (case side4 => exact (Kd.S_reads' HO174.out).2.1); rintro e w' ⟨rfl, ⟨nd, rfl⟩⟩; refine ⟨_, rfl, ?_⟩))
    go_meet
    case rel => exact ⟨_, ((t179 != t172)), eS, H', ⟨by first | omega | exact Nat.le_refl _⟩, ⟨by (with_reducible repeat (first | apply Kd.S_alloc | apply Kd.S_drewN | apply Kd.S_drew)); exact HO174.out⟩, ⟨by (with_reducible repeat (first | apply Kd.R_alloc | apply Kd.R_drewN | apply Kd.R_drew)); exact Kd.R_mono HO177.out (fun _ hk => trivial)⟩, ⟨by (with_reducible repeat (first | apply Kd.S_alloc | apply Kd.S_drewN | apply Kd.S_drew)); exact HO181.out⟩, ⟨bP HB⟩⟩
   ·replace c15 := Bool.eq_false_iff.mpr c15
    subst c15
    have H1 : (laws_FnExactPermCycles.j0 k l0 t171 t172 t175 t178 t179 true) = some r := by rw [if_neg (show ¬ (false = true) by decide)] at H; exact H
    clear H
    have H := H1
    clear H1
    have H' := Aside0.mk H
    clear H
    obtain ⟨Ao18, co18, eo18⟩ := Kd.S_slice HO181.out
    subst eo18
    obtain ⟨Ao19, co19, eo19⟩ := Kd.S_slice HO174.out
    subst eo19
    go_wp2_with (first | ((with_reducible refine gate_callee (f := 11) rfl ?_); refine gL (some 31) Try.func11 #[.slice Ao18 t178.length co18, .slice Ao19 t171.length co19] ?_; (with_reducible refine (laws_eqIntSS.calls k _ _ t178 _ _ t171 false _ ?side1 ?side2 ?side3 ?side4 A14.out).mono ?_); (case side1 => exact cP (Kd.S_reads' HO181.out).2.2); (case side2 => exact (Kd.S_reads' HO181.out).2.1); (case side3 => exact cP (Kd.S_reads' HO174.out).2.2); (case side4 => exact (Kd.S_reads' HO174.out).2.1); rintro e w' ⟨rfl, ⟨nd, rfl⟩⟩; refine ⟨_, rfl, ?_⟩))
    go_meet
    case rel => exact ⟨_, (true), eS, H', ⟨by first | omega | exact Nat.le_refl _⟩, ⟨by (with_reducible repeat (first | apply Kd.S_alloc | apply Kd.S_drewN | apply Kd.S_drew)); exact HO174.out⟩, ⟨by (with_reducible repeat (first | apply Kd.R_alloc | apply Kd.R_drewN | apply Kd.R_drew)); exact Kd.R_mono HO177.out (fun _ hk => trivial)⟩, ⟨by (with_reducible repeat (first | apply Kd.S_alloc | apply Kd.S_drewN | apply Kd.S_drew)); exact HO181.out⟩, ⟨bP HB⟩⟩
  case rest =>
   clear HC7
   try clear c1
   try clear c2
   try clear c2b0
   try clear c2b1
   try clear p2
   try clear c3
   try clear c8
   try clear c9
   try clear c10
   try clear c11
   try clear c15
   obtain ⟨kq, x37_6, rfl, HA, HJ6, HO_3, HO_5, HO_6, HB⟩ := hcut
   cases kq with
   | zero => exact absurd HA.out (by simp [laws_FnExactPermCycles.j0])
   | succ kj6 =>
    have H := HA.out
    clear HA
    simp only [laws_FnExactPermCycles.j0] at H
    by_cases c20 : x37_6 = true
    ·subst c20
     have H1 : (some false) = some r := by rw [if_pos rfl] at H; exact H
     clear H
     have H := H1
     clear H1
     exact absurd ((Option.some.inj H).trans hr_.out) (by decide)
    ·replace c20 := Bool.eq_false_iff.mpr c20
     subst c20
     have H1 : ((laws_toIntS.f kj6 l0).bind fun t183 => ((laws_eqIntS.f kj6 t175 t183).bind fun t186 => (if t186 = true then ((laws_markIntS.f kj6 t175 1).bind fun bt187 => (if bt187.1 < 0 then (laws_FnExactPermCycles.j1 kj6 l0 t171 t172 t178 true) else ((laws_eqIntSS.f kj6 t178 t171).bind fun t189 => (if t189 = true then (laws_FnExactPermCycles.j1 kj6 l0 t171 t172 t178 (t179 != t172)) else (laws_FnExactPermCycles.j1 kj6 l0 t171 t172 t178 true))))) else (some false)))) = some r := by rw [if_neg (show ¬ (false = true) by decide)] at H; exact H
     clear H
     have H := H1
     clear H1
     replace H := Option.bind_eq_some_iff.mp H
     obtain ⟨t183, A210, H⟩ := H
     replace H : ((laws_eqIntS.f kj6 t175 t183).bind fun t186 => (if t186 = true then ((laws_markIntS.f kj6 t175 1).bind fun bt187 => (if bt187.1 < 0 then (laws_FnExactPermCycles.j1 kj6 l0 t171 t172 t178 true) else ((laws_eqIntSS.f kj6 t178 t171).bind fun t189 => (if t189 = true then (laws_FnExactPermCycles.j1 kj6 l0 t171 t172 t178 (t179 != t172)) else (laws_FnExactPermCycles.j1 kj6 l0 t171 t172 t178 true))))) else (some false))) = some r := H
     have A21 := Aside0.mk A210
     clear A210
     replace H := Option.bind_eq_some_iff.mp H
     obtain ⟨t186, A220, H⟩ := H
     replace H : (if t186 = true then ((laws_markIntS.f kj6 t175 1).bind fun bt187 => (if bt187.1 < 0 then (laws_FnExactPermCycles.j1 kj6 l0 t171 t172 t178 true) else ((laws_eqIntSS.f kj6 t178 t171).bind fun t189 => (if t189 = true then (laws_FnExactPermCycles.j1 kj6 l0 t171 t172 t178 (t179 != t172)) else (laws_FnExactPermCycles.j1 kj6 l0 t171 t172 t178 true))))) else (some false)) = some r := H
     have A22 := Aside0.mk A220
     clear A220
     by_cases c23 : t186 = true
     ·subst c23
      have H1 : ((laws_markIntS.f kj6 t175 1).bind fun bt187 => (if bt187.1 < 0 then (laws_FnExactPermCycles.j1 kj6 l0 t171 t172 t178 true) else ((laws_eqIntSS.f kj6 t178 t171).bind fun t189 => (if t189 = true then (laws_FnExactPermCycles.j1 kj6 l0 t171 t172 t178 (t179 != t172)) else (laws_FnExactPermCycles.j1 kj6 l0 t171 t172 t178 true))))) = some r := by rw [if_pos rfl] at H; exact H
      clear H
      have H := H1
      clear H1
      replace H := Option.bind_eq_some_iff.mp H
      obtain ⟨⟨t187, t188⟩, A240, H⟩ := H
      replace H : (if t187 < 0 then (laws_FnExactPermCycles.j1 kj6 l0 t171 t172 t178 true) else ((laws_eqIntSS.f kj6 t178 t171).bind fun t189 => (if t189 = true then (laws_FnExactPermCycles.j1 kj6 l0 t171 t172 t178 (t179 != t172)) else (laws_FnExactPermCycles.j1 kj6 l0 t171 t172 t178 true)))) = some r := H
      have A24 := Aside0.mk A240
      clear A240
      have HC25 := Aside0.mk H
      clear H
      go_upto_region 12 with (first | ((with_reducible refine gate_callee (f := 9) rfl ?_); refine gL (some 40) Try.func9 #[.slice A0 l0.length c0] ?_; (with_reducible refine (laws_toIntS.calls kj6 _ _ l0 t183 _ ?side1 ?side2 A21.out).mono ?_); (case side1 => exact cB HR0 HB); (case side2 => exact HC0.out); rintro e w26 ⟨v184, rfl, ho0, hb⟩; refine ⟨_, rfl, ?_⟩; replace HO_3 := Aside0.mk (Kd.S_elder' (by (with_reducible repeat (first | apply Kd.S_alloc | apply Kd.S_drewN | apply Kd.S_drew)); exact HO_3.out) (Kd.R_base ho0) hb); replace HO_6 := Aside0.mk (Kd.S_elder' (by (with_reducible repeat (first | apply Kd.S_alloc | apply Kd.S_drewN | apply Kd.S_drew)); exact HO_6.out) (Kd.R_base ho0) hb); have HO185 := Aside0.mk (Kd.R_lower (Kd.R_new' ho0 (Kd.R_lt (rP HO_5))) (below_size (bP HB))); replace HO_5 := Aside0.mk (Kd.R_elder' (rP HO_5) (Kd.R_base ho0) hb); replace HB := bS HB hb; (try clear hb); (try clear hb2); (try clear hk); (try clear hi); (try clear ho0); obtain ⟨Ao27, co27, eo27⟩ := Kd.R_slice HO185.out; subst eo27) | ((with_reducible refine gate_callee (f := 12) rfl ?_); refine gL (some 41) Try.func12 #[.slice Ao12 t175.length co12, .slice Ao27 t183.length co27] ?_; (with_reducible refine (laws_eqIntS.calls kj6 _ _ t175 _ _ t183 true _ ?side1 ?side2 ?side3 ?side4 A22.out).mono ?_); (case side1 => exact cP (Kd.R_reads' HO_5.out).2.2); (case side2 => exact (Kd.R_reads' HO_5.out).2.1); (case side3 => exact cP (Kd.R_reads' HO185.out).2.2); (case side4 => exact (Kd.R_reads' HO185.out).2.1); rintro e w' ⟨rfl, ⟨nd, rfl⟩⟩; refine ⟨_, rfl, ?_⟩) | ((with_reducible refine gate_callee (f := 13) rfl ?_); refine gL (some 45) Try.func13 #[.slice Ao12 t175.length co12, .int .i64 1] ?_; (with_reducible refine (laws_markIntS.calls kj6 (fun k_ => some k_ = (.slice Ao12 t175.length co12 : Value).ownBlock) (.slice Ao12 t175.length co12) t175 1 t187 t188 w _ ?side1 ?side2 A24.out).mono ?_); (case side1 => exact bP HB); (case side2 => exact Kd.R_tight rfl HO_5.out); rintro e w28 ⟨rfl, hy0, hb, hkp⟩; refine ⟨_, rfl, ?_⟩; replace HO_3 := Aside0.mk (Kd.S_mono (ok' := fun k_ => oN k_ Ao12 t175 co12 ∧ some k_ ≠ (v180 : Value).ownBlock ∧ oN k_ Ao27 t183 co27 ∧ k_ < N) (Kd.S_keptB (HO_3.out) hkp (fun k_ hk_ hs_ => (hk_.1.1.1) hs_)) (fun k_ hk_ => ⟨hk_.1.1.1.1, hk_.1.1.1.2, hk_.1.2, hk_.1.1.2⟩)); replace HO_5 := Aside0.mk (Kd.R_reok rfl hy0 (fun k_ e_ => HO_5.out.1 k_ e_)); replace HO_6 := Aside0.mk (Kd.S_mono (ok' := fun k_ => some k_ ≠ (v173 : Value).ownBlock ∧ oN k_ Ao12 t175 co12 ∧ oN k_ Ao27 t183 co27 ∧ N ≤ k_) (Kd.S_keptB (HO_6.out) hkp (fun k_ hk_ hs_ => (hk_.1.1.2) hs_)) (fun k_ hk_ => ⟨hk_.1.1.1.1, hk_.1.1.1.2, hk_.1.2, hk_.1.1.2⟩)); replace HO185 := Aside0.mk (Kd.R_mono (ok' := fun k_ => oN k_ Ao12 t175 co12) (Kd.R_keptB (HO185.out) hkp (fun k_ hk_ hs_ => (hk_.2) hs_)) (fun k_ hk_ => hk_.1.2)); replace HB := Aside0.mk (hb); (try clear hb); (try clear hkp); (try clear hy0)))
      (try simp only [Act.put, List.setIfInBounds_toArray, List.set_cons_zero, List.set_cons_succ])
      go_cut [58] (fun v58 wc => ∃ (kq : Nat) (x58_24 : Bool), v58 = .bool x58_24 ∧ Aside0 (laws_FnExactPermCycles.j1 kq l0 t171 t172 t178 x58_24 = some r) ∧ Aside0 (kq ≤ kj6) ∧ Aside0 (Kd.S (Kd.slice 3 (Kd.int .i64)) 22 wc w.heap.size (fun k_ => some k_ ≠ (v180 : Value).ownBlock ∧ k_ < N) v173 t171) ∧ Aside0 (Kd.S (Kd.slice 3 (Kd.int .i64)) 22 wc w.heap.size (fun k_ => some k_ ≠ (v173 : Value).ownBlock ∧ N ≤ k_) v180 t178) ∧ Aside0 (Below w.heap.size w wc))
      case first =>
       have H := HC25.out
       clear HC25
       by_cases c29 : t187 < 0
       ·rw [if_pos c29] at H
        have c29b0 : decide (t187 < 0) = true := decide_eq_true c29
        clear c29
        (first | rw [c29b0] | (simp only [i64_w, i32_w]; rw [c29b0]) | skip)
        have H' := Aside0.mk H
        clear H
        go_wp2
        go_meet
        case rel => exact ⟨_, (true), eS, H', ⟨by have := HJ6.out; first | omega | exact Nat.le_refl _⟩, ⟨by (with_reducible repeat (first | apply Kd.S_alloc | apply Kd.S_drewN | apply Kd.S_drew)); exact Kd.S_mono HO_3.out (fun _ hk => ⟨hk.2.1, hk.2.2.2⟩)⟩, ⟨by (with_reducible repeat (first | apply Kd.S_alloc | apply Kd.S_drewN | apply Kd.S_drew)); exact Kd.S_mono HO_6.out (fun _ hk => ⟨hk.1, hk.2.2.2⟩)⟩, ⟨bP HB⟩⟩
       ·rw [if_neg c29] at H
        have c29b0 : decide (t187 < 0) = false := decide_eq_false c29
        clear c29
        (first | rw [c29b0] | (simp only [i64_w, i32_w]; rw [c29b0]) | skip)
        replace H := Option.bind_eq_some_iff.mp H
        obtain ⟨t189, A300, H⟩ := H
        replace H : (if t189 = true then (laws_FnExactPermCycles.j1 kj6 l0 t171 t172 t178 (t179 != t172)) else (laws_FnExactPermCycles.j1 kj6 l0 t171 t172 t178 true)) = some r := H
        have A30 := Aside0.mk A300
        clear A300
        by_cases c31 : t189 = true
        ·subst c31
         have H1 : (laws_FnExactPermCycles.j1 kj6 l0 t171 t172 t178 (t179 != t172)) = some r := by rw [if_pos rfl] at H; exact H
         clear H
         have H := H1
         clear H1
         have H' := Aside0.mk H
         clear H
         obtain ⟨Ao32, co32, eo32⟩ := Kd.S_slice HO_6.out
         subst eo32
         obtain ⟨Ao33, co33, eo33⟩ := Kd.S_slice HO_3.out
         subst eo33
         go_wp2_with (first | (go_at_call 11; (with_reducible refine (laws_eqIntSS.calls kj6 _ _ t178 _ _ t171 true _ ?side1 ?side2 ?side3 ?side4 A30.out).mono ?_); (case side1 => exact cP (Kd.S_reads' HO_6.out).2.2); (case side2 => exact (Kd.S_reads' HO_6.out).2.1); (case side3 => exact cP (Kd.S_reads' HO_3.out).2.2); (case side4 => exact (Kd.S_reads' HO_3.out).2.1); rintro e w' ⟨rfl, ⟨nd, rfl⟩⟩))
         go_meet
         case rel => exact ⟨_, ((t179 != t172)), eS, H', ⟨by have := HJ6.out; first | omega | exact Nat.le_refl _⟩, ⟨by (with_reducible repeat (first | apply Kd.S_alloc | apply Kd.S_drewN | apply Kd.S_drew)); exact Kd.S_mono HO_3.out (fun _ hk => ⟨hk.2.1, hk.2.2.2⟩)⟩, ⟨by (with_reducible repeat (first | apply Kd.S_alloc | apply Kd.S_drewN | apply Kd.S_drew)); exact Kd.S_mono HO_6.out (fun _ hk => ⟨hk.1, hk.2.2.2⟩)⟩, ⟨bP HB⟩⟩
        ·replace c31 := Bool.eq_false_iff.mpr c31
         subst c31
         have H1 : (laws_FnExactPermCycles.j1 kj6 l0 t171 t172 t178 true) = some r := by rw [if_neg (show ¬ (false = true) by decide)] at H; exact H
         clear H
         have H := H1
         clear H1
         have H' := Aside0.mk H
         clear H
         obtain ⟨Ao34, co34, eo34⟩ := Kd.S_slice HO_6.out
         subst eo34
         obtain ⟨Ao35, co35, eo35⟩ := Kd.S_slice HO_3.out
         subst eo35
         go_wp2_with (first | (go_at_call 11; (with_reducible refine (laws_eqIntSS.calls kj6 _ _ t178 _ _ t171 false _ ?side1 ?side2 ?side3 ?side4 A30.out).mono ?_); (case side1 => exact cP (Kd.S_reads' HO_6.out).2.2); (case side2 => exact (Kd.S_reads' HO_6.out).2.1); (case side3 => exact cP (Kd.S_reads' HO_3.out).2.2); (case side4 => exact (Kd.S_reads' HO_3.out).2.1); rintro e w' ⟨rfl, ⟨nd, rfl⟩⟩))
         go_meet
         case rel => exact ⟨_, (true), eS, H', ⟨by have := HJ6.out; first | omega | exact Nat.le_refl _⟩, ⟨by (with_reducible repeat (first | apply Kd.S_alloc | apply Kd.S_drewN | apply Kd.S_drew)); exact Kd.S_mono HO_3.out (fun _ hk => ⟨hk.2.1, hk.2.2.2⟩)⟩, ⟨by (with_reducible repeat (first | apply Kd.S_alloc | apply Kd.S_drewN | apply Kd.S_drew)); exact Kd.S_mono HO_6.out (fun _ hk => ⟨hk.1, hk.2.2.2⟩)⟩, ⟨bP HB⟩⟩
      case rest =>
       clear HC25
       try clear c1
       try clear c2
       try clear c2b0
       try clear c2b1
       try clear p2
       try clear c3
       try clear c8
       try clear c9
       try clear c10
       try clear c11
       try clear c12
       try clear c13
       try clear c15
       try clear c20
       try clear c23
       try clear c29
       try clear c29b0
       try clear c31
       try clear p2
       obtain ⟨kq, x58_24, rfl, HA, HJ24, HO_3, HO_6, HB⟩ := hcut
       cases kq with
       | zero => exact absurd HA.out (by simp [laws_FnExactPermCycles.j1])
       | succ kj24 =>
        have H := HA.out
        clear HA
        simp only [laws_FnExactPermCycles.j1] at H
        by_cases c36 : x58_24 = true
        ·subst c36
         have H1 : (some false) = some r := by rw [if_pos rfl] at H; exact H
         clear H
         have H := H1
         clear H1
         exact absurd ((Option.some.inj H).trans hr_.out) (by decide)
        ·replace c36 := Bool.eq_false_iff.mpr c36
         subst c36
         have H1 : ((laws_markIntSS.f kj24 t178 1).bind fun bt190 => ((laws_heldIntSS.f kj24 bt190.2 1).bind fun t191 => (if t191 < 0 then (some false) else (if t191 = bt190.1 then ((laws_toIntS.f kj24 l0).bind fun t192 => ((impl_PermCycles.f kj24 t192).bind fun bt195 => ((laws_eqIntSS.f kj24 bt195.1 t171).bind fun t199 => (if t199 = true then (laws_FnExactPermCycles.j2 kj24 bt190.2 bt190.1 (bt195.2 != t172)) else (laws_FnExactPermCycles.j2 kj24 bt190.2 bt190.1 true))))) else (some false))))) = some r := by rw [if_neg (show ¬ (false = true) by decide)] at H; exact H
         clear H
         have H := H1
         clear H1
         replace H := Option.bind_eq_some_iff.mp H
         obtain ⟨⟨t190, t178m⟩, A370, H⟩ := H
         replace H : ((laws_heldIntSS.f kj24 t178m 1).bind fun t191 => (if t191 < 0 then (some false) else (if t191 = t190 then ((laws_toIntS.f kj24 l0).bind fun t192 => ((impl_PermCycles.f kj24 t192).bind fun bt195 => ((laws_eqIntSS.f kj24 bt195.1 t171).bind fun t199 => (if t199 = true then (laws_FnExactPermCycles.j2 kj24 t178m t190 (bt195.2 != t172)) else (laws_FnExactPermCycles.j2 kj24 t178m t190 true))))) else (some false)))) = some r := H
         have A37 := Aside0.mk A370
         clear A370
         replace H := Option.bind_eq_some_iff.mp H
         obtain ⟨t191, A380, H⟩ := H
         replace H : (if t191 < 0 then (some false) else (if t191 = t190 then ((laws_toIntS.f kj24 l0).bind fun t192 => ((impl_PermCycles.f kj24 t192).bind fun bt195 => ((laws_eqIntSS.f kj24 bt195.1 t171).bind fun t199 => (if t199 = true then (laws_FnExactPermCycles.j2 kj24 t178m t190 (bt195.2 != t172)) else (laws_FnExactPermCycles.j2 kj24 t178m t190 true))))) else (some false))) = some r := H
         have A38 := Aside0.mk A380
         clear A380
         by_cases c39 : t191 < 0
         ·rw [if_pos c39] at H
          have c39b0 : decide (t191 < 0) = true := decide_eq_true c39
          clear c39
          exact absurd ((Option.some.inj H).trans hr_.out) (by decide)
         ·rw [if_neg c39] at H
          have c39b0 : decide (t191 < 0) = false := decide_eq_false c39
          clear c39
          by_cases c40 : t191 = t190
          ·rw [if_pos c40] at H
           have c40b0 : (t191 == t190) = true := beq_iff_eq.mpr c40
           have c40b1 : (t191 != t190) = false := bne_eq_false_iff_eq.mpr c40
           clear c40
           replace H := Option.bind_eq_some_iff.mp H
           obtain ⟨t192, A410, H⟩ := H
           replace H : ((impl_PermCycles.f kj24 t192).bind fun bt195 => ((laws_eqIntSS.f kj24 bt195.1 t171).bind fun t199 => (if t199 = true then (laws_FnExactPermCycles.j2 kj24 t178m t190 (bt195.2 != t172)) else (laws_FnExactPermCycles.j2 kj24 t178m t190 true)))) = some r := H
           have A41 := Aside0.mk A410
           clear A410
           replace H := Option.bind_eq_some_iff.mp H
           obtain ⟨⟨t195, t196⟩, A420, H⟩ := H
           replace H : ((laws_eqIntSS.f kj24 t195 t171).bind fun t199 => (if t199 = true then (laws_FnExactPermCycles.j2 kj24 t178m t190 (t196 != t172)) else (laws_FnExactPermCycles.j2 kj24 t178m t190 true))) = some r := H
           have A42 := Aside0.mk A420
           clear A420
           have HC43 := Aside0.mk H
           clear H
           obtain ⟨Ao44, co44, eo44⟩ := Kd.S_slice HO_6.out
           subst eo44
           go_upto_region 23 with (first | ((with_reducible refine gate_callee (f := 14) rfl ?_); refine gL (some 61) Try.func14 #[.slice Ao44 t178.length co44, .int .i64 1] ?_; (with_reducible refine (laws_markIntSS.calls kj24 (fun k_ => N ≤ k_) (.slice Ao44 t178.length co44) t178 1 t190 t178m w _ ?side1 ?side2 A37.out).mono ?_); (case side1 => exact bP HB); (case side2 => (with_reducible repeat (first | apply Kd.S_alloc | apply Kd.S_drewN | apply Kd.S_drew)); exact Kd.S_mono HO_6.out (fun _ hk => hk.2)); rintro e w45 ⟨rfl, hy0, hb, hkp⟩; refine ⟨_, rfl, ?_⟩; have n0_ := Aside0.mk (show Kd.S (Kd.slice 3 (Kd.int .i64)) 22 w45 w.heap.size (fun k_ => oN k_ Ao44 t178 co44 ∧ k_ < N) v173 t171 from Kd.S_kept (by (with_reducible repeat (first | apply Kd.S_alloc | apply Kd.S_drewN | apply Kd.S_drew)); exact HO_3.out) hkp (fun k_ hk_ hs_ => Nat.not_le.2 hk_.2 hs_)); have n1_ := Aside0.mk hy0; have n2_ := Aside0.mk hb; clear HB; have HB := n2_; have HO_93 := n0_; have HO_96 := n1_; clear n0_ n1_ n2_; have hlm := (Kd.S_reads' HO_96.out).1; rw [hlm] at HO_96; rw [hlm]; (try clear hb); (try clear hkp); (try clear hy0); (try clear hi); (try clear HO_3); (try clear HO_6)) | ((with_reducible refine gate_callee (f := 15) rfl ?_); refine gL (some 64) Try.func15 #[.slice Ao44 t178m.length co44, .int .i64 1] ?_; (with_reducible refine (laws_heldIntSS.calls kj24 _ _ t178m 1 t191 _ ?side1 ?side2 A38.out).mono ?_); (case side1 => exact cP (Kd.S_reads' HO_96.out).2.2); (case side2 => exact (Kd.S_reads' HO_96.out).2.1); rintro e w' ⟨rfl, ⟨nd, rfl⟩⟩; refine ⟨_, rfl, ?_⟩) | ((with_reducible refine gate_callee (f := 9) rfl ?_); refine gL (some 72) Try.func9 #[.slice A0 l0.length c0] ?_; (with_reducible refine (laws_toIntS.calls kj24 _ _ l0 t192 _ ?side1 ?side2 A41.out).mono ?_); (case side1 => exact cP (Kd.C_below HR0.out (bP HB))); (case side2 => exact HC0.out); rintro e w46 ⟨v193, rfl, ho0, hb⟩; refine ⟨_, rfl, ?_⟩; replace HO_93 := Aside0.mk (Kd.S_elder' (by (with_reducible repeat (first | apply Kd.S_alloc | apply Kd.S_drewN | apply Kd.S_drew)); exact HO_93.out) (Kd.R_base ho0) hb); replace HO_96 := Aside0.mk (Kd.S_elder' (by (with_reducible repeat (first | apply Kd.S_alloc | apply Kd.S_drewN | apply Kd.S_drew)); exact HO_96.out) (Kd.R_base ho0) hb); have HO194 := rL ho0 HB; replace HB := bS HB hb; (try clear hb); (try clear hb2); (try clear hk); (try clear hi); (try clear ho0); obtain ⟨Ao47, co47, eo47⟩ := Kd.R_slice HO194.out; subst eo47) | ((with_reducible refine gate_callee (f := 10) rfl ?_); refine gL (some 73) Try.func10 #[.slice Ao47 t192.length co47] ?_; (with_reducible refine (impl_PermCycles.calls kj24 _ _ t192 t195 t196 _ ?side1 ?side2 A42.out).mono ?_); (case side1 => exact cP (Kd.R_reads' HO194.out).2.2); (case side2 => exact (Kd.R_reads' HO194.out).2.1); rintro e w48 ⟨v197, rfl, ho0, hb⟩; refine ⟨_, rfl, ?_⟩; have HO198 := Aside0.mk (Kd.S_lower (Kd.S_new' (Kd.S_new' (Kd.S_new' ho0 (Kd.S_lt (by (with_reducible repeat (first | apply Kd.S_alloc | apply Kd.S_drewN | apply Kd.S_drew)); exact HO_93.out))) (Kd.S_lt (by (with_reducible repeat (first | apply Kd.S_alloc | apply Kd.S_drewN | apply Kd.S_drew)); exact HO_96.out))) (Kd.R_lt (rP HO194))) (below_size (bP HB))); replace HO_93 := Aside0.mk (Kd.S_elder' (by (with_reducible repeat (first | apply Kd.S_alloc | apply Kd.S_drewN | apply Kd.S_drew)); exact HO_93.out) (Kd.S_base ho0) hb); replace HO_96 := Aside0.mk (Kd.S_elder' (by (with_reducible repeat (first | apply Kd.S_alloc | apply Kd.S_drewN | apply Kd.S_drew)); exact HO_96.out) (Kd.S_base ho0) hb); replace HO194 := rB HO194 hb; replace HB := bS HB hb; (try clear hb); (try clear hb2); (try clear hk); (try clear hi); (try clear ho0)))
           (try simp only [Act.put, List.setIfInBounds_toArray, List.set_cons_zero, List.set_cons_succ])
           go_cut [84] (fun v84 wc => ∃ (kq : Nat) (x84_42 : Bool), v84 = .bool x84_42 ∧ Aside0 (laws_FnExactPermCycles.j2 kq t178m t190 x84_42 = some r) ∧ Aside0 (kq ≤ kj24) ∧ Aside0 (Kd.S (Kd.slice 3 (Kd.int .i64)) 22 wc w.heap.size (fun _ => True) (.slice Ao44 t178m.length co44) t178m) ∧ Aside0 (Below w.heap.size w wc))
           case first =>
            have H := HC43.out
            clear HC43
            replace H := Option.bind_eq_some_iff.mp H
            obtain ⟨t199, A490, H⟩ := H
            replace H : (if t199 = true then (laws_FnExactPermCycles.j2 kj24 t178m t190 (t196 != t172)) else (laws_FnExactPermCycles.j2 kj24 t178m t190 true)) = some r := H
            have A49 := Aside0.mk A490
            clear A490
            by_cases c50 : t199 = true
            ·subst c50
             have H1 : (laws_FnExactPermCycles.j2 kj24 t178m t190 (t196 != t172)) = some r := by rw [if_pos rfl] at H; exact H
             clear H
             have H := H1
             clear H1
             have H' := Aside0.mk H
             clear H
             obtain ⟨Ao51, co51, eo51⟩ := Kd.S_slice HO198.out
             subst eo51
             obtain ⟨Ao52, co52, eo52⟩ := Kd.S_slice HO_93.out
             subst eo52
             go_wp2_with (first | ((with_reducible refine gate_callee (f := 11) rfl ?_); refine gL (some 78) Try.func11 #[.slice Ao51 t195.length co51, .slice Ao52 t171.length co52] ?_; (with_reducible refine (laws_eqIntSS.calls kj24 _ _ t195 _ _ t171 true _ ?side1 ?side2 ?side3 ?side4 A49.out).mono ?_); (case side1 => exact cP (Kd.S_reads' HO198.out).2.2); (case side2 => exact (Kd.S_reads' HO198.out).2.1); (case side3 => exact cP (Kd.S_reads' HO_93.out).2.2); (case side4 => exact (Kd.S_reads' HO_93.out).2.1); rintro e w' ⟨rfl, ⟨nd, rfl⟩⟩; refine ⟨_, rfl, ?_⟩))
             go_meet
             case rel => exact ⟨_, ((t196 != t172)), eS, H', ⟨by have := HJ6.out; have := HJ24.out; first | omega | exact Nat.le_refl _⟩, ⟨by (with_reducible repeat (first | apply Kd.S_alloc | apply Kd.S_drewN | apply Kd.S_drew)); exact Kd.S_mono HO_96.out (fun _ hk => trivial)⟩, ⟨bP HB⟩⟩
            ·replace c50 := Bool.eq_false_iff.mpr c50
             subst c50
             have H1 : (laws_FnExactPermCycles.j2 kj24 t178m t190 true) = some r := by rw [if_neg (show ¬ (false = true) by decide)] at H; exact H
             clear H
             have H := H1
             clear H1
             have H' := Aside0.mk H
             clear H
             obtain ⟨Ao53, co53, eo53⟩ := Kd.S_slice HO198.out
             subst eo53
             obtain ⟨Ao54, co54, eo54⟩ := Kd.S_slice HO_93.out
             subst eo54
             go_wp2_with (first | ((with_reducible refine gate_callee (f := 11) rfl ?_); refine gL (some 78) Try.func11 #[.slice Ao53 t195.length co53, .slice Ao54 t171.length co54] ?_; (with_reducible refine (laws_eqIntSS.calls kj24 _ _ t195 _ _ t171 false _ ?side1 ?side2 ?side3 ?side4 A49.out).mono ?_); (case side1 => exact cP (Kd.S_reads' HO198.out).2.2); (case side2 => exact (Kd.S_reads' HO198.out).2.1); (case side3 => exact cP (Kd.S_reads' HO_93.out).2.2); (case side4 => exact (Kd.S_reads' HO_93.out).2.1); rintro e w' ⟨rfl, ⟨nd, rfl⟩⟩; refine ⟨_, rfl, ?_⟩))
             go_meet
             case rel => exact ⟨_, (true), eS, H', ⟨by have := HJ6.out; have := HJ24.out; first | omega | exact Nat.le_refl _⟩, ⟨by (with_reducible repeat (first | apply Kd.S_alloc | apply Kd.S_drewN | apply Kd.S_drew)); exact Kd.S_mono HO_96.out (fun _ hk => trivial)⟩, ⟨bP HB⟩⟩
           case rest =>
            clear HC43
            try clear c1
            try clear c2
            try clear c2b0
            try clear c2b1
            try clear p2
            try clear c3
            try clear c4
            try clear c5
            try clear c8
            try clear c9
            try clear c10
            try clear c11
            try clear c12
            try clear c13
            try clear c14
            try clear c15
            try clear c20
            try clear c23
            try clear c29
            try clear c29b0
            try clear c31
            try clear c36
            try clear c39
            try clear c39b0
            try clear c40
            try clear c40b0
            try clear c40b1
            try clear c50
            try clear p2
            obtain ⟨kq, x84_42, rfl, HA, HJ42, HO_96, HB⟩ := hcut
            cases kq with
            | zero => exact absurd HA.out (by simp [laws_FnExactPermCycles.j2])
            | succ kj42 =>
             have H := HA.out
             clear HA
             simp only [laws_FnExactPermCycles.j2] at H
             by_cases c55 : x84_42 = true
             ·subst c55
              have H1 : (some false) = some r := by rw [if_pos rfl] at H; exact H
              clear H
              have H := H1
              clear H1
              exact absurd ((Option.some.inj H).trans hr_.out) (by decide)
             ·replace c55 := Bool.eq_false_iff.mpr c55
              subst c55
              have H1 : ((laws_heldIntSS.f kj42 t178m 1).bind fun t200 => (if t200 < 0 then (some false) else (if t200 = t190 then (some true) else (some false)))) = some r := by rw [if_neg (show ¬ (false = true) by decide)] at H; exact H
              clear H
              have H := H1
              clear H1
              replace H := Option.bind_eq_some_iff.mp H
              obtain ⟨t200, A560, H⟩ := H
              replace H : (if t200 < 0 then (some false) else (if t200 = t190 then (some true) else (some false))) = some r := H
              have A56 := Aside0.mk A560
              clear A560
              by_cases c57 : t200 < 0
              ·rw [if_pos c57] at H
               have c57b0 : decide (t200 < 0) = true := decide_eq_true c57
               clear c57
               exact absurd ((Option.some.inj H).trans hr_.out) (by decide)
              ·rw [if_neg c57] at H
               have c57b0 : decide (t200 < 0) = false := decide_eq_false c57
               clear c57
               by_cases c58 : t200 = t190
               ·rw [if_pos c58] at H
                have c58b0 : (t200 == t190) = true := beq_iff_eq.mpr c58
                have c58b1 : (t200 != t190) = false := bne_eq_false_iff_eq.mpr c58
                clear c58
                obtain rfl := Option.some.inj H
                go_wp2_with (first | ((with_reducible refine gate_callee (f := 15) rfl ?_); refine gL (some 87) Try.func15 #[.slice Ao44 t178m.length co44, .int .i64 1] ?_; (with_reducible refine (laws_heldIntSS.calls kj42 _ _ t178m 1 t200 _ ?side1 ?side2 A56.out).mono ?_); (case side1 => exact cP (Kd.S_reads' HO_96.out).2.2); (case side2 => exact (Kd.S_reads' HO_96.out).2.1); rintro e w' ⟨rfl, ⟨nd, rfl⟩⟩; refine ⟨_, rfl, ?_⟩))
                go_ret
                exact ⟨eR, bP HB⟩
               ·rw [if_neg c58] at H
                have c58b0 : (t200 == t190) = false := beq_eq_false_iff_ne.mpr c58
                have c58b1 : (t200 != t190) = true := bne_iff_ne.mpr c58
                exact absurd ((Option.some.inj H).trans hr_.out) (by decide)
          ·rw [if_neg c40] at H
           have c40b0 : (t191 == t190) = false := beq_eq_false_iff_ne.mpr c40
           have c40b1 : (t191 != t190) = true := bne_iff_ne.mpr c40
           exact absurd ((Option.some.inj H).trans hr_.out) (by decide)
     ·replace c23 := Bool.eq_false_iff.mpr c23
      subst c23
      have H1 : (some false) = some r := by rw [if_neg (show ¬ (false = true) by decide)] at H; exact H
      clear H
      have H := H1
      clear H1
      exact absurd ((Option.some.inj H).trans hr_.out) (by decide)

/-- THE ONE PURE STATEMENT of laws_FnExactPermCycles: yours. -/
def laws_FnExactPermCycles.Pure : Prop := ∀ (l0 : List Int), l0.length ≤ maxLen → l0.length * 8 ≤ 140737488351232 → (∀ x ∈ l0, (Lit.int .i64 x).wf = true) → ∃ k, laws_FnExactPermCycles.f k l0 = some true
theorem laws_FnExactPermCycles.walk (P : laws_FnExactPermCycles.Pure) (a0 : Option Addr) (len0 cap0 : Nat) (z0 : List Int) (w : World) (w0 : (a0 = none ∧ len0 = 0 ∧ cap0 = 0 ∧ z0 = []) ∨ ∃ x, a0 = some x ∧ len0 ≤ cap0 ∧ cap0 ≤ maxLen ∧ z0.length = cap0 ∧ (∀ i, i < z0.length → w.cell? (x.add i) = some (.int .i64 (z0.getD i 0))) ∧ ∀ n ∈ z0, (Lit.int .i64 n).wf = true) (y0 : len0 * 8 ≤ 140737488351232) :
 Calls Try.prog 3 #[.slice a0 len0 cap0] w fun e w' => e = .returned (.bool true) ∧ Below w.heap.size w w' := by
 obtain ⟨l0, rfl, hr0, hm0, hw0, hc0⟩ := ReadsInt.ofRowC w0
 obtain ⟨k, h⟩ := P l0 hm0 y0 hw0
 refine (laws_FnExactPermCycles.calls k _ _ l0 true w (Kd.C_of_reads (d := (0 : Int)) (h1 := fun _ => rfl) hr0) hc0 ⟨rfl⟩ h).mono ?_
 rintro e w' ⟨rfl, hd⟩
 exact ⟨rfl, hd⟩

end Go.Proofs.Ytajmkjeiegdpcaa.F
