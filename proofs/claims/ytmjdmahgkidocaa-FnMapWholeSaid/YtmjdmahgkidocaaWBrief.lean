/- Short words: steps of the printed walks, each under a short name, what they ask being sought by itself. -/
import Derived.Test.YtmjdmahgkidocaaWMore
import Derived.Test.YtmjdmahgkidocaaWNEv
import Derived.Test.YtmjdmahgkidocaaWTab
import Derived.Tactics
import Derived.KernelRfl
import Derived.WalkSpells
namespace Go.Proofs.YtmjdmahgkidocaaW.PrintMore
open Go.RowKit Go.Proofs.YtmjdmahgkidocaaW.PrintWords Go.Proofs.YtmjdmahgkidocaaW.PrintLast
set_option linter.unusedVariables false
/-- the row's block is not the list's -/
abbrev oN {α : Type} (k : Nat) (A : Option Addr) (t : List α) (c : Nat) : Prop := some k ≠ (Value.slice A t.length c).ownBlock
theorem dT {p : Prop} [Decidable p] (h : decide p = true := by first | (with_reducible assumption) | assumption) : p := of_decide_eq_true h
theorem eS {p : Prop} (h : p := by first | rfl | (simp; done) | (simp [*]; done)) : p := h
theorem eR {p : Prop} (h : p := by first | rfl | (simp <;> rfl) | (simp [*] <;> rfl)) : p := h
theorem dP {w w' : World} (h : Drawn0 w w' := by repeat (first | exact Drawn0.refl _ | apply Drawn0.step)) : Drawn0 w w' := h
theorem bP {w W0 W : World} (h : Aside0 (Below w.heap.size w W0)) (e : Below w.heap.size w W0 → Below w.heap.size w W := by intro h_; repeat (first | (with_reducible first | exact h_ | apply below_alloc | apply pw_below_drewN | apply below_drew1 | refine below_set ?_ (Aside0.out (by assumption))) | exact h_)) : Below w.heap.size w W := e h.out
theorem bS {w W0 W w2 : World} (h : Aside0 (Below w.heap.size w W0)) (k : Below W.heap.size W w2) (e : Below w.heap.size w W0 → Below w.heap.size w W := by intro h_; repeat (first | (with_reducible first | exact h_ | apply below_alloc | apply pw_below_drewN | apply below_drew1 | refine below_set ?_ (Aside0.out (by assumption))) | exact h_)) : Aside0 (Below w.heap.size w w2) := ⟨below_step (e h.out) k⟩
theorem gS {w W0 W : World} {g : Nat} (h : Aside0 (Below w.heap.size w W0)) (hg : g = W.heap.size) (e : Below w.heap.size w W0 → Below w.heap.size w W := by intro h_; repeat (first | (with_reducible first | exact h_ | apply below_alloc | apply pw_below_drewN | apply below_drew1 | refine below_set ?_ (Aside0.out (by assumption))) | exact h_)) : Aside0 (w.heap.size ≤ g) := ⟨by rw [hg]; exact below_size (e h.out)⟩
theorem kP {w0 W : World} {g : Nat} {o : Obj} (h : Aside0 (w0.heap[g]? = some o)) (e : w0.heap[g]? = some o → W.heap[g]? = some o := by intro h_; (with_reducible repeat (first | apply blk_drewN | apply blk_drew | apply blk_alloc)); exact h_) : W.heap[g]? = some o := e h.out
theorem zc0 {w : World} {g : Nat} {t : TypeId} {cs : Array Value} {a b : Value} (h : Aside0 (w.heap[g]? = some (.cells cs t (0, 0)))) (e : cs = #[a, b] := by exact rfl) : w.cell? ⟨g, 0, none⟩ = some a := by subst e; exact (blk_cell h.out 0).trans rfl
theorem zc1 {w : World} {g : Nat} {t : TypeId} {cs : Array Value} {a b : Value} (h : Aside0 (w.heap[g]? = some (.cells cs t (0, 0)))) (e : cs = #[a, b] := by exact rfl) : w.cell? ⟨g, 1, none⟩ = some b := by subst e; exact (blk_cell h.out 1).trans rfl
theorem kF {w0 W : World} {g : Nat} {o : Obj} (h : Aside0 (w0.heap[g]? = some o)) (e : w0.heap[g]? = some o → W.heap[g]? = some o := by intro h_; repeat (first | (with_reducible first | exact h_ | apply blk_drewN | apply blk_drew | apply blk_alloc | refine blk_far ?_ (Aside0.out (by assumption)) _) | exact h_)) : W.heap[g]? = some o := e h.out
theorem kB {w0 W w1 : World} {g : Nat} {o : Obj} (h : Aside0 (w0.heap[g]? = some o)) (hb : Below W.heap.size W w1) (e : w0.heap[g]? = some o → W.heap[g]? = some o := by intro h_; (with_reducible repeat (first | apply blk_drewN | apply blk_drew | apply blk_alloc)); exact h_) : Aside0 (w1.heap[g]? = some o) := ⟨blk_below (e h.out) hb⟩
theorem kG {w0 W w1 : World} {g : Nat} {o : Obj} (h : Aside0 (w0.heap[g]? = some o)) (hb : Below W.heap.size W w1) (e : w0.heap[g]? = some o → W.heap[g]? = some o := by intro h_; repeat (first | (with_reducible first | exact h_ | apply blk_drewN | apply blk_drew | apply blk_alloc | refine blk_far ?_ (Aside0.out (by assumption)) _) | exact h_)) : Aside0 (w1.heap[g]? = some o) := ⟨blk_below (e h.out) hb⟩
theorem nL {w0 W : World} {g b : Nat} {o : Obj} (h : Aside0 (w0.heap[g]? = some o)) (hg : b = W.heap.size) (e : w0.heap[g]? = some o → W.heap[g]? = some o := by intro h_; (with_reducible repeat (first | apply blk_drewN | apply blk_drew | apply blk_alloc)); exact h_) : Aside0 (g ≠ b) := ⟨by rw [hg]; exact Nat.ne_of_lt (blk_lt (e h.out))⟩
theorem nG {w0 W : World} {g b : Nat} {o : Obj} (h : Aside0 (w0.heap[g]? = some o)) (hg : b = W.heap.size) (e : w0.heap[g]? = some o → W.heap[g]? = some o := by intro h_; (with_reducible repeat (first | apply blk_drewN | apply blk_drew | apply blk_alloc)); exact h_) : Aside0 (b ≠ g) := ⟨by rw [hg]; exact Nat.ne_of_gt (blk_lt (e h.out))⟩
section
variable {α : Type} {d : Kd α} {e n m : Nat} {ok : Nat → Prop} {w w0 W0 W w1 : World} {v : Value} {xs : List α} {A : Option Addr} {base : Nat}
theorem rP (h : Aside0 (d.R e w0 base ok v xs)) (i : d.R e w0 base ok v xs → d.R e W base ok v xs := by intro h_; (with_reducible repeat (first | apply Kd.R_alloc | apply Kd.R_drewN | apply Kd.R_drew)); exact h_) : d.R e W base ok v xs := i h.out
theorem rT (h : d.R e w0 base ok v xs) (i : d.R e w0 base ok v xs → d.R e W base ok v xs := by intro h_; (with_reducible repeat (first | apply Kd.R_alloc | apply Kd.R_drewN | apply Kd.R_drew)); exact h_) : d.R e W base ok v xs := i h
theorem rB (h : Aside0 (d.R e w0 base ok v xs)) (hb : Below W.heap.size W w1) (i : d.R e w0 base ok v xs → d.R e W base ok v xs := by intro h_; (with_reducible repeat (first | apply Kd.R_alloc | apply Kd.R_drewN | apply Kd.R_drew)); exact h_) : Aside0 (d.R e w1 base ok v xs) := ⟨Kd.R_below (i h.out) hb⟩
theorem rL (h : d.R e w1 W.heap.size ok v xs) (hB : Aside0 (Below w.heap.size w W0)) (i : Below w.heap.size w W0 → Below w.heap.size w W := by intro h_; repeat (first | (with_reducible first | exact h_ | apply below_alloc | apply pw_below_drewN | apply below_drew1 | refine below_set ?_ (Aside0.out (by assumption))) | exact h_)) : Aside0 (d.R e w1 w.heap.size ok v xs) := ⟨Kd.R_lower h (below_size (i hB.out))⟩
theorem rF (g n : Nat) (h : d.R e w base ok v xs) (u : Value) (hok : ∀ k, ok k → k ≠ g := by exact fun _ hk => hk.2) : d.R e (w.setCell ⟨g, n, none⟩ u) base ok v xs := Kd.R_far h (p := ⟨g, n, none⟩) hok u
theorem rY {g t : Nat} {cells : Array Value} (h : Aside0 (d.R e w base ok v xs)) (hb : Aside0 (w.heap[g]? = some (.cells cells t (0, 0)))) (ht : ∀ q, q ∈ e :: d.E → q ≠ t := by decide) : d.R e w base (fun k => ok k ∧ k ≠ g) v xs := Kd.R_types h.out hb.out ht
theorem cP (h : d.C w0 A n xs) (i : d.C w0 A n xs → d.C W A m xs := by intro h_; repeat (first | exact h_ | with_reducible first | refine Kd.C_alloc ?_ _ | refine Kd.C_drewN ?_ _ | refine Kd.C_drew ?_)) : d.C W A m xs := i h
theorem cB (h : Aside0 (d.C w0 A n xs)) (hb : Aside0 (Below w0.heap.size w0 W0)) (i : d.C W0 A n xs → d.C W A m xs := by intro h_; repeat (first | exact h_ | with_reducible first | refine Kd.C_alloc ?_ _ | refine Kd.C_drewN ?_ _ | refine Kd.C_drew ?_)) : d.C W A m xs := i (Kd.C_below h.out hb.out)
end
section
variable {P : Program} {ops : Array Oper} {rest : List Oper} {o : Oper} {a : Act} {Q : Exit → Act → World → Prop} {W : World}
theorem bE (N : Tmp) (cs : Array Value) (t : TypeId)
    (h : ∀ g, g = W.heap.size → ∀ w1, w1.heap[g]? = some (.cells cs t (0, 0)) → Below W.heap.size W w1 → wpList P ops Q rest (a.put o.dst (.pointer (some ⟨g, 0, none⟩))) w1)
    (hgd : o.guard = none := by exact rfl) (hd : o.dst = some N := by exact rfl)
    (hr : (execOp a.eval o).run P W = .ok (.value (.pointer (some ⟨W.heap.size, 0, none⟩))) (W.alloc (.cells cs t (0, 0))) := by first | (go_simp; done) | (go_simp; rfl)) : wpList P ops Q (o :: rest) a W := box_event hgd hd hr h
theorem gL (N : Option Tmp) {f : FuncId} {fn : Func} {as : Array Operand} {ts : Array TypeId} (hf : P.funcs[f]? = some fn) (args : Array Value)
    (h : Calls P f args W fun e w' => ∃ v, e = .returned v ∧ wpList P ops Q rest (a.put N v) w')
    (hd : o.dst = N := by exact rfl) (hg : o.guard = none := by exact rfl) (hname : (fn.name == "runtime.NumGoroutine") = false := by kernel_rfl) (hb : fn.body.isSome = true := by exact rfl)
    (hop : o.op = .call { callee := .value (.func f), args := as, argTypes := ts } := by exact rfl)
    (hargs : as.map a.eval = args := by (try simp only [List.map_toArray, List.map_cons, List.map_nil]); first | done | rfl | (simp only [List.length_drop, List.length_take]; rfl)) : wpList P ops Q (o :: rest) a W := goesL_ N hd hg hf hname hb args hop hargs h
end
/-! regions: what has come up, as two numbers; the steps that only yield -/
def tf (a b : Nat) : Array Bool := (List.replicate a true ++ List.replicate b false).toArray
def tB (n m : Nat) : Array Bool := ((List.range n).map fun i => m.testBit i).toArray
theorem iF {α : Type} {a b : α} : (if false = true then a else b) = b := if_neg (by decide)
theorem yO {α β : Type} {e : α} {f : α → Option β} {b : β} (H : (some e).bind f = some b) : ∃ y, y = e ∧ f y = some b := ⟨e, rfl, H⟩
section
variable {P : Program} {ops : Array Oper} {Q : Exit → Act → World → Prop} {md : Region.Mode} {S : World → Prop} {ds : List Nat} {T : Bool × List (List Nat × List Nat)} {B : List Nat} {oi : Oper} {v : Value} {fuel : Nat} {l : Array Bool} {a a' : Act} {w : World}
theorem pV (i N : Nat) (l' : Array Bool) (HT : Aside0 (rtab md ops = T)) (h : wpAnyLast P md ops Q S ds fuel l' a' w) (hi : ops[i]? = some oi := by exact rfl) (hN : oi.dst = some N := by exact rfl) (hc : anyT T l.toList l'.toList i = true := by as_aux_lemma => kernel_rfl)
    (hQ : ∀ c a w, Q (.panic c) (a.put oi.dst v) w → Q (.panic c) a w := by exact fun _ _ _ h => h) (hy : Region.wanted oi (yielded ops a.tmps) = true := by rfl) (hv : ∀ w, (execOp a.eval oi).run P w = .ok (.value v) w := by intro w'; go_simp; with_reducible rfl)
    (ha : a.put (some N) v = a' := by simp only [Act.put, List.setIfInBounds_toArray, List.set_cons_zero, List.set_cons_succ, i64_w, i32_w]; rfl) : wpAnyLast P md ops Q S ds (fuel + 1) l a w := pure_ l' hi hN (any_of HT.out hc) hQ (.inl ⟨hy, hv⟩) ha h
theorem pK (i N : Nat) (l' : Array Bool) (h : wpAnyLast P md ops Q S ds fuel l' a' w) (hi : ops[i]? = some oi := by exact rfl) (hN : oi.dst = some N := by exact rfl) (hc : anyB md ops l l' i = true := by kernel_rfl)
    (hQ : ∀ c a w, Q (.panic c) (a.put oi.dst v) w → Q (.panic c) a w := by exact fun _ _ _ h => h) (hy : Region.wanted oi (yielded ops a.tmps) = true := by rfl) (hv : ∀ w, (execOp a.eval oi).run P w = .ok (.value v) w := by intro w'; go_simp; with_reducible rfl)
    (ha : a.put (some N) v = a' := by simp only [Act.put, List.setIfInBounds_toArray, List.set_cons_zero, List.set_cons_succ, i64_w, i32_w]; rfl) : wpAnyLast P md ops Q S ds (fuel + 1) l a w := pure_ l' hi hN hc hQ (.inl ⟨hy, hv⟩) ha h
theorem tV (i N : Nat) (l' : Array Bool) (HT : Aside0 (rtab md ops = T)) (HW : Aside0 (waitsOk T.2 B = true)) (hS : S w) (h : wpAnyLast P md ops Q S ds fuel l' a' w) (hi : ops[i]? = some oi := by exact rfl) (hN : oi.dst = some N := by exact rfl) (hc : takeW T B ds l.toList l'.toList i = true := by as_aux_lemma => kernel_rfl)
    (hQ : ∀ c a w, Q (.panic c) (a.put oi.dst v) w → Q (.panic c) a w := by exact fun _ _ _ h => h) (hy : Region.wanted oi (yielded ops a.tmps) = true := by rfl) (hv : ∀ w, S w → (execOp a.eval oi).run P w = .ok (.value v) w := by intro w'; (try simp only [and_imp]); intros; go_simp; with_reducible rfl)
    (ha : a.put (some N) v = a' := by simp only [Act.put, List.setIfInBounds_toArray, List.set_cons_zero, List.set_cons_succ, i64_w, i32_w]; rfl) : wpAnyLast P md ops Q S ds (fuel + 1) l a w := take_ l' hi hN (take_ofW HT.out HW.out hc) hQ (.inl ⟨hy, hv⟩) hS ha h
theorem tK (i N : Nat) (l' : Array Bool) (hS : S w) (h : wpAnyLast P md ops Q S ds fuel l' a' w) (hi : ops[i]? = some oi := by exact rfl) (hN : oi.dst = some N := by exact rfl) (hc : takeB md ops ds l l' i = true := by kernel_rfl)
    (hQ : ∀ c a w, Q (.panic c) (a.put oi.dst v) w → Q (.panic c) a w := by exact fun _ _ _ h => h) (hy : Region.wanted oi (yielded ops a.tmps) = true := by rfl) (hv : ∀ w, S w → (execOp a.eval oi).run P w = .ok (.value v) w := by intro w'; (try simp only [and_imp]); intros; go_simp; with_reducible rfl)
    (ha : a.put (some N) v = a' := by simp only [Act.put, List.setIfInBounds_toArray, List.set_cons_zero, List.set_cons_succ, i64_w, i32_w]; rfl) : wpAnyLast P md ops Q S ds (fuel + 1) l a w := take_ l' hi hN hc hQ (.inl ⟨hy, hv⟩) hS ha h
theorem eN (i : Nat) (N : Option Tmp) (l' : Array Bool) (HT : Aside0 (rtab md ops = T))
    (h : ∀ K : Act → World → Prop, Shut (∀ a' w', S w' → (S w' → wpAnyLast P md ops Q S ds fuel l' a' w') → K a' w') → if Region.wanted oi (yielded ops a.tmps) = true then Oper.wp P oi a w K Q else K (a.put N undef) w)
    (hi : ops[i]? = some oi := by exact rfl) (hN : oi.dst = N := by exact rfl) (hc : (readyT T.2 l.toList == [i] && l.toList.set i true == l'.toList) = true := by kernel_rfl) (hd : i ∉ ds := by decide) : wpAnyLast P md ops Q S ds (fuel + 1) l a w := one_ l' hi hN (one_of HT.out hc) hd h
end
end Go.Proofs.YtmjdmahgkidocaaW.PrintMore
