/- The recursion of genus 0 is the formula. -/
import Derived.Test.YtcclnblabaoofaaF1
import Derived.Test.YtcclnblabaoofaaF10
import Derived.Test.YtcclnblabaoofaaF11
import Derived.Test.YtcclnblabaoofaaF12
import Derived.Test.YtcclnblabaoofaaF3
import Derived.Test.YtcclnblabaoofaaF4
set_option linter.unusedVariables false
set_option linter.unusedSimpArgs false
namespace Go.Proofs.Ytcclnblabaoofaa.Sm
open List
end Go.Proofs.Ytcclnblabaoofaa.Sm
namespace Go.Proofs.Ytcclnblabaoofaa.R
open Go.RowKit Go.Proofs.YtcclnblabaoofaaW.PrintWords Go.Proofs.YtcclnblabaoofaaW.PrintLast Go.Proofs.YtcclnblabaoofaaW.PrintMore Go.Proofs.Ytcclnblabaoofaa.F Go.Proofs.Ytcclnblabaoofaa.Sm
theorem Ev.pos {α : Type} {c : Prop} [Decidable c] {A B : Nat → Option α} {r : α} (h : c) (k : Ev A r) : Ev (fun n => if c then A n else B n) r := by
  simp only [if_pos h]; exact k

theorem Ev.neg {α : Type} {c : Prop} [Decidable c] {A B : Nat → Option α} {r : α} (h : ¬ c) (k : Ev B r) : Ev (fun n => if c then A n else B n) r := by
  simp only [if_neg h]; exact k

theorem Ev.bind1 {α β : Type} {g : Nat → Option α} {f : Nat → α → Option β} {a : α} {r : β} (h : Ev g a) (k : Ev (fun n => f n a) r) : Ev (fun n => (g n).bind (f n)) r := Ev.bind h k

theorem Ev.some1 {α β : Type} {f : Nat → α → Option β} {a : α} {r : β} (k : Ev (fun n => f n a) r) : Ev (fun n => (some a).bind (f n)) r := k

theorem wrap_in {n : Int} (h1 : -9223372036854775808 ≤ n) (h2 : n ≤ 9223372036854775807) : wrap64 n = n := by unfold wrap64; omega

theorem xor_i64_nat (a b : Nat) (ha : a < 9223372036854775808) (hb : b < 9223372036854775808) : Go.bits .xor .i64 (a : Int) (b : Int) = ((a ^^^ b : Nat) : Int) := by
  have hx : a ^^^ b < 2 ^ 63 := Nat.xor_lt_two_pow (by omega) (by omega)
  have h1 : (BitVec.ofInt 64 (a : Int)).toNat = a := by
    rw [BitVec.ofInt_natCast, BitVec.toNat_ofNat]; exact Nat.mod_eq_of_lt (by omega)
  have h2 : (BitVec.ofInt 64 (b : Int)).toNat = b := by
    rw [BitVec.ofInt_natCast, BitVec.toNat_ofNat]; exact Nat.mod_eq_of_lt (by omega)
  show IntKind.i64.wrap ((BitVec.ofInt 64 (a : Int) ^^^ BitVec.ofInt 64 (b : Int)).toNat : Int) = _
  rw [BitVec.toNat_xor, h1, h2]
  simp [IntKind.wrap, IntKind.bits, IntKind.signed]
  omega

theorem xor_i64_pos {a b : Int} (h1 : 0 ≤ a) (h2 : a < 9223372036854775808) (h3 : 0 ≤ b) (h4 : b < 9223372036854775808) : 0 ≤ Go.bits .xor .i64 a b := by
  obtain ⟨m, rfl⟩ : ∃ m : Nat, a = m := ⟨a.toNat, by omega⟩
  obtain ⟨k, rfl⟩ : ∃ k : Nat, b = k := ⟨b.toNat, by omega⟩
  rw [xor_i64_nat _ _ (by omega) (by omega)]
  omega

/-- a code's bytes -/
def Bytes (s : List Int) : Prop := s.length ≤ 2000 ∧ ∀ x, x ∈ s → 0 ≤ x ∧ x ≤ 255

theorem Bytes.rd {s : List Int} (h : Bytes s) (i : Int) : 0 ≤ rd s i ∧ rd s i ≤ 255 := by
  unfold Go.Proofs.YtcclnblabaoofaaW.PrintWords.rd
  rw [List.getD_eq_getElem?_getD]
  cases e : s[i.toNat]? with
  | none => simp
  | some x => exact h.2 x (List.mem_of_getElem? e)

theorem tmod_in {a n : Int} (ha : 0 ≤ a) (hn : 1 ≤ n) : 0 ≤ Int.tmod a n ∧ Int.tmod a n < n := by
  rw [Int.tmod_eq_emod_of_nonneg ha]
  exact ⟨Int.emod_nonneg _ (by omega), Int.emod_lt_of_pos _ (by omega)⟩

theorem pick_ev {s : List Int} (hs : Bytes s) {p n : Int} (h0 : 0 ≤ p) (h1 : p ≤ 1000000000) (hn : n ≤ 1000000000) :
    ∃ v, Ev (fun k => spec_l6Rd_pick.f k s p n) (v, p + 1) ∧ 0 ≤ v ∧ v ≤ 1000000000 ∧ (1 ≤ n → v < n) := by
  have w1 : wrap64 (p + 1) = p + 1 := wrap_in (by omega) (by omega)
  have w2 : wrap64 (p + 1 - 1) = p := by rw [wrap_in (by omega) (by omega)]; omega
  unfold spec_l6Rd_pick.f
  by_cases c : n < 1
  · refine ⟨0, Ev.pos c ?_, by omega, by omega, fun e => by omega⟩
    rw [w1]
    exact Ev.step (f := fun _ => some (0, p + 1)) (fun k => by rw [spec_l6Rd_pick.j0, if_pos rfl]) (Ev.now _)
  · by_cases d : s.length = 0
    · refine ⟨0, Ev.neg c ?_, by omega, by omega, fun e => by omega⟩
      rw [w1]
      have e : ((s.length : Int) == 0) = true := by simp [d]
      rw [e]
      exact Ev.step (f := fun _ => some (0, p + 1)) (fun k => by rw [spec_l6Rd_pick.j0, if_pos rfl]) (Ev.now _)
    · have e : ((s.length : Int) == 0) = false := by
        exact beq_eq_false_iff_ne.mpr (by omega)
      have hl := hs.1
      by_cases f : p < s.length
      · have r := hs.rd p
        have t := tmod_in (a := rd s p) (n := n) r.1 (by omega)
        refine ⟨Int.tmod (rd s p) n, Ev.neg c ?_, t.1, by omega, fun _ => t.2⟩
        rw [w1, e]
        refine Ev.step (f := fun _ => some (Int.tmod (rd s p) n, p + 1)) (fun k => by
          rw [spec_l6Rd_pick.j0, w2, if_neg (by simp), if_pos f, if_pos h0, if_neg (by omega), wrap_in (by omega) (by omega)]) (Ev.now _)
      · have m1 := tmod_in (a := p) (n := (s.length : Int)) h0 (by omega)
        have w3 : wrap64 (p * 7) = p * 7 := wrap_in (by omega) (by omega)
        have w4 : wrap64 (p * 7 + 3) = p * 7 + 3 := wrap_in (by omega) (by omega)
        have m2 := tmod_in (a := p * 7 + 3) (n := (s.length : Int)) (by omega) (by omega)
        obtain ⟨A, hA⟩ : ∃ A, A = rd s (Int.tmod p (s.length : Int)) := ⟨_, rfl⟩
        obtain ⟨B, hB⟩ : ∃ B, B = rd s (Int.tmod (p * 7 + 3) (s.length : Int)) := ⟨_, rfl⟩
        have a1 : 0 ≤ A ∧ A ≤ 255 := by rw [hA]; exact hs.rd _
        have b1 : 0 ≤ B ∧ B ≤ 255 := by rw [hB]; exact hs.rd _
        obtain ⟨D, hD⟩ : ∃ D, D = Int.tdiv p (s.length : Int) := ⟨_, rfl⟩
        have d1 : 0 ≤ D ∧ D ≤ p := by
          rw [hD, Int.tdiv_eq_ediv_of_nonneg h0]
          exact ⟨Int.ediv_nonneg h0 (by omega), Int.ediv_le_self _ h0⟩
        obtain ⟨X, hX⟩ : ∃ X, X = A * 131 + B * 1117 + p * 29 + D * 53 := ⟨_, rfl⟩
        have x1 : 0 ≤ X ∧ X ≤ 100000000000 := by omega
        have y1 : 0 ≤ Int.tdiv X 64 ∧ Int.tdiv X 64 ≤ X := by
          rw [Int.tdiv_eq_ediv_of_nonneg x1.1]; omega
        have z := xor_i64_pos (a := X) (b := Int.tdiv X 64) x1.1 (by omega) y1.1 (by omega)
        have t := tmod_in (n := n) z (by omega)
        refine ⟨Int.tmod (Go.bits .xor .i64 X (Int.tdiv X 64)) n, Ev.neg c ?_, t.1, by omega, fun _ => t.2⟩
        rw [w1, e]
        refine Ev.step (f := fun _ => some (Int.tmod (Go.bits .xor .i64 X (Int.tdiv X 64)) n, p + 1)) (fun k => by
          rw [spec_l6Rd_pick.j0, w2, if_neg (by simp), if_neg f, if_neg (by omega), if_pos m1.1, if_pos m1.2, w3, w4, if_pos m2.1, if_pos m2.2, if_neg (by omega), ← hA, ← hB, ← hD]
          rw [wrap_in (n := A) (by omega) (by omega), wrap_in (n := B) (by omega) (by omega), wrap_in (n := A * 131) (by omega) (by omega), wrap_in (n := B * 1117) (by omega) (by omega), wrap_in (n := A * 131 + B * 1117) (by omega) (by omega), wrap_in (n := p * 29) (by omega) (by omega), wrap_in (n := A * 131 + B * 1117 + p * 29) (by omega) (by omega), wrap_in (n := D) (by omega) (by omega), wrap_in (n := D * 53) (by omega) (by omega), wrap_in (n := A * 131 + B * 1117 + p * 29 + D * 53) (by omega) (by omega), ← hX, wrap_in (n := Int.tdiv X 64) (by omega) (by omega)]) (Ev.now _)

theorem open_ev {l : List Int} (hw : ∀ x ∈ l, (Lit.int .u8 x).wf = true) : ∃ s, Bytes s ∧ Ev (fun _ => spec_l6Open.f l) (s, 0) := by
  have hb : ∀ x, x ∈ l → 0 ≤ x ∧ x ≤ 255 := by
    intro x hx
    have := hw x hx
    simp [Lit.wf, IntKind.min, IntKind.max, IntKind.signed, IntKind.bits] at this
    omega
  unfold spec_l6Open.f
  by_cases c : (l.length : Int) > 2000
  · refine ⟨l.take 2000, ⟨by simp; omega, fun x hx => hb x (List.mem_of_mem_take hx)⟩, Ev.pos c (Ev.pos (by omega) (Ev.now _))⟩
  · exact ⟨l, ⟨by omega, hb⟩, Ev.neg c (Ev.now _)⟩

def runOk (e g : Int) : Bool := match impl_RootedRun.f e g, spec_RootedRun.f 3000 e g, impl_RootedPlane.f 60 e with
  | some a, some b, some c => a == b && decide (0 ≤ a) && (decide (a > 0) == decide (wrap64 (2 * g) ≤ e)) && (decide (g > 0) || a == c)
  | _, _, _ => false

theorem run_ok : ∀ e : Fin 10, ∀ g : Fin 6, runOk ((e.val : Nat) : Int) ((g.val : Nat) : Int) = true := by decide +kernel

theorem ev_at {α : Type} {f : Nat → Option α} {r : α} (hm : ∀ k, LeO (f k) (f (k + 1))) {k : Nat} (h : f k = some r) : Ev f r := Ev.of (k := k) hm h

/-- inside the range: both answer the same, and what the law asks of it -/
theorem run_in {e g : Int} (h0 : 0 ≤ e) (h1 : e ≤ 9) (h2 : 0 ≤ g) (h3 : g ≤ 5) : ∃ a, impl_RootedRun.f e g = some a ∧ Ev (fun k => spec_RootedRun.f k e g) a ∧ 0 ≤ a ∧ (decide (a > 0) == decide (wrap64 (2 * g) ≤ e)) = true ∧ (¬ g > 0 → Ev (fun k => impl_RootedPlane.f k e) a) := by
  obtain ⟨m, rfl⟩ : ∃ m : Nat, e = m := ⟨e.toNat, by omega⟩
  obtain ⟨q, rfl⟩ : ∃ m : Nat, g = m := ⟨g.toNat, by omega⟩
  have h := run_ok ⟨m, by omega⟩ ⟨q, by omega⟩
  dsimp only at h
  unfold runOk at h
  cases e1 : impl_RootedRun.f (m : Int) (q : Int) with
  | none => rw [e1] at h; simp at h
  | some a =>
    cases e2 : spec_RootedRun.f 3000 (m : Int) (q : Int) with
    | none => rw [e1, e2] at h; simp at h
    | some b =>
      cases e3 : impl_RootedPlane.f 60 (m : Int) with
      | none => rw [e1, e2, e3] at h; simp at h
      | some c =>
        rw [e1, e2, e3] at h
        simp only [Bool.and_eq_true, Bool.or_eq_true] at h
        obtain ⟨⟨⟨k1, k2⟩, k3⟩, k4⟩ := h
        have k1' : a = b := by simpa using k1
        subst k1'
        refine ⟨a, rfl, ev_at (spec_RootedRun.mono _ _) e2, of_decide_eq_true k2, k3, fun ng => ?_⟩
        rcases k4 with k4 | k4
        · exact (ng (of_decide_eq_true k4)).elim
        · have : a = c := by simpa using k4
          subst this
          exact ev_at (impl_RootedPlane.mono _) e3

/-- outside: both answer -1 -/
theorem run_out {e g : Int} (h : ¬ (0 ≤ e ∧ e ≤ 9 ∧ 0 ≤ g ∧ g ≤ 5)) : impl_RootedRun.f e g = some (-1) ∧ Ev (fun k => spec_RootedRun.f k e g) (-1) := by
  constructor
  · unfold impl_RootedRun.f
    by_cases a : e < 0
    · rw [if_pos a]
    · rw [if_neg a]
      by_cases b : 9 < e
      · rw [if_pos b]
      · rw [if_neg b]
        by_cases c : g < 0
        · rw [if_pos c]
        · rw [if_neg c, if_pos (by omega)]
  · unfold spec_RootedRun.f spec_l6In.f
    by_cases a : e ≥ 0
    · rw [if_pos a]
      by_cases b : e ≤ 9
      · rw [decide_eq_true b]
        refine Ev.some1 (Ev.pos rfl ?_)
        by_cases c : g ≥ 0
        · rw [if_pos c, decide_eq_false (by omega)]; exact Ev.some1 (Ev.neg (by simp) (Ev.now _))
        · rw [if_neg c]; exact Ev.some1 (Ev.neg (by simp) (Ev.now _))
      · rw [decide_eq_false b]; exact Ev.some1 (Ev.neg (by simp) (Ev.now _))
    · rw [if_neg a]; exact Ev.some1 (Ev.neg (by simp) (Ev.now _))

theorem drawRun_ev {l : List Int} (hw : ∀ x ∈ l, (Lit.int .u8 x).wf = true) : ∃ e g, Ev (fun k => spec_DrawRootedRun.f k l) (e, g) := by
  obtain ⟨s, hs, es⟩ := open_ev hw
  obtain ⟨v, ev, v0, v1, _⟩ := pick_ev hs (p := 0) (n := 11) (by omega) (by omega) (by omega)
  obtain ⟨u, eu, _⟩ := pick_ev hs (p := 0 + 1) (n := 16) (by omega) (by omega) (by omega)
  obtain ⟨x, ex, _⟩ := pick_ev hs (p := 0 + 1 + 1) (n := 7) (by omega) (by omega) (by omega)
  obtain ⟨y, ey, _⟩ := pick_ev hs (p := 0 + 1 + 1 + 1) (n := 16) (by omega) (by omega) (by omega)
  unfold spec_DrawRootedRun.f
  exact ⟨_, _, Ev.bind1 es (Ev.bind1 ev (Ev.bind1 eu (Ev.bind1 ex (Ev.bind1 ey (Ev.now _)))))⟩

/-- The recursion of genus 0 is the formula. -/
theorem FnRun : laws_FnRun.Pure := by
  intro l _ _ hw
  obtain ⟨e, g, dr⟩ := drawRun_ev hw
  have : Ev (fun k => laws_FnRun.f k l) true := by
    unfold laws_FnRun.f
    by_cases c : (l.length : Int) > 1048576
    · exact Ev.pos c (Ev.now _)
    refine Ev.neg c (Ev.bind1 dr ?_)
    by_cases h : 0 ≤ e ∧ e ≤ 9 ∧ 0 ≤ g ∧ g ≤ 5
    · obtain ⟨a, e1, e2, a0, a1, a2⟩ := run_in h.1 h.2.1 h.2.2.1 h.2.2.2
      dsimp only
      rw [e1]
      refine Ev.some1 (Ev.bind1 e2 (Ev.pos rfl (Ev.neg (by omega) ?_)))
      by_cases gz : g > 0
      · refine Ev.pos gz ?_
        rw [a1]; exact Ev.now _
      · refine Ev.neg gz (Ev.bind1 (a2 gz) (Ev.pos rfl ?_))
        rw [a1]; exact Ev.now _
    · obtain ⟨e1, e2⟩ := run_out h
      dsimp only
      rw [e1]
      exact Ev.some1 (Ev.bind1 e2 (Ev.pos rfl (Ev.pos (by omega) (Ev.now _))))
  exact this.rounds
end Go.Proofs.Ytcclnblabaoofaa.R
namespace Go.Proofs.Ytcclnblabaoofaa.Pure
theorem FnRun : Go.Proofs.Ytcclnblabaoofaa.F.laws_FnRun.Pure := Go.Proofs.Ytcclnblabaoofaa.R.FnRun
end Go.Proofs.Ytcclnblabaoofaa.Pure
