/- The plain statement of the law FnTrees holds for every input. -/
import Derived.Test.YtcclnblabaoofaaF1
import Derived.Test.YtcclnblabaoofaaF2
import Derived.Test.YtcclnblabaoofaaF8
import Derived.Test.YtcclnblabaoofaaF9
import Derived.Test.YtcclnblabaoofaaF10
set_option linter.unusedVariables false
set_option linter.unusedSimpArgs false
namespace Go.Proofs.Ytcclnblabaoofaa.Sm
open List
/-- f permutes the numbers below n. -/
def Bij (n : Nat) (f : Nat → Nat) : Prop := (∀ i, i < n → f i < n) ∧ (∀ i j, i < n → j < n → f i = f j → i = j)

/-- f done m times -/
def it (f : Nat → Nat) : Nat → Nat → Nat
  | 0, x => x
  | m + 1, x => f (it f m x)

theorem it_lt {n : Nat} {f : Nat → Nat} (h : Bij n f) (m : Nat) {x : Nat} (hx : x < n) : it f m x < n := by
  induction m with
  | zero => exact hx
  | succ m ih => exact h.1 _ ih

/-- the points that f leads to from x -/
def orb (f : Nat → Nat) (x y : Nat) : Prop := ∃ k, it f k x = y

/-- no coloring that both keep tells i from j -/
def conn (n : Nat) (a b : Nat → Nat) (i j : Nat) : Prop := ∀ c : Nat → Nat, (∀ x, x < n → c (a x) = c x ∧ c (b x) = c x) → c i = c j

/-- o tells the least point that each point leads to -/
structure IsOrb (n : Nat) (a b o : Nat → Nat) : Prop where
  keep : ∀ x, x < n → o (a x) = o x ∧ o (b x) = o x
  le : ∀ x, x < n → o x ≤ x
  conn : ∀ x, x < n → conn n a b x (o x)

/-- a point's least one leads nowhere lower -/
theorem IsOrb.min {n : Nat} {a b o : Nat → Nat} (h : IsOrb n a b o) {x y : Nat} (hx : x < n) (hy : y < n) (hc : Sm.conn n a b x y) : o x ≤ y := by
  have := hc o h.keep
  rw [this]; exact h.le y hy

/-- keeps to the edges: zero at a dart, alike on a vertex, at most one more over an edge -/
structure Lip (n : Nat) (t s : Nat → Nat) (a : Nat) (D : Nat → Nat) : Prop where
  zero : D a = 0
  turn : ∀ x, x < n → D (t x) = D x
  edge : ∀ x, x < n → D x ≤ D (s x) + 1

structure IsDist (n : Nat) (t s : Nat → Nat) (a : Nat) (D : Nat → Nat) : Prop where
  lip : Lip n t s a D
  w0 : ∀ x, x < n → D x = 0 → orb t a x
  w1 : ∀ x m, x < n → D x = m + 1 → ∃ y, y < n ∧ orb t x y ∧ D (s y) = m

theorem Lip.orb {n : Nat} {t s : Nat → Nat} {a : Nat} {D : Nat → Nat} (h : Lip n t s a D) (ht : Bij n t) {x y : Nat} (hx : x < n) (o : orb t x y) : D y = D x := by
  obtain ⟨k, rfl⟩ := o
  induction k with
  | zero => rfl
  | succ k ih => show D (t (it t k x)) = D x; rw [h.turn _ (it_lt ht k hx), ih]

/-- nothing that keeps to the edges is greater -/
theorem IsDist.max {n : Nat} {t s : Nat → Nat} {a : Nat} {D E : Nat → Nat} (ht : Bij n t) (hs : Bij n s) (ha : a < n) (h : IsDist n t s a D) (e : Lip n t s a E) : ∀ x, x < n → E x ≤ D x := by
  have key : ∀ m x, x < n → D x = m → E x ≤ m := by
    intro m
    induction m with
    | zero =>
      intro x hx d
      have := e.orb ht ha (h.w0 x hx d)
      rw [this, e.zero]; exact Nat.le_refl _
    | succ m ih =>
      intro x hx d
      obtain ⟨y, hy, o, d2⟩ := h.w1 x m hx d
      have i := ih (s y) (hs.1 y hy) d2
      have j := e.edge y hy
      have k := e.orb ht hx o
      omega
  intro x hx
  exact key _ x hx rfl
end Go.Proofs.Ytcclnblabaoofaa.Sm
namespace Go.Proofs.Ytcclnblabaoofaa.R
open Go.RowKit Go.Proofs.YtcclnblabaoofaaW.PrintWords Go.Proofs.YtcclnblabaoofaaW.PrintLast Go.Proofs.YtcclnblabaoofaaW.PrintMore Go.Proofs.Ytcclnblabaoofaa.F Go.Proofs.Ytcclnblabaoofaa.Sm
theorem Ev.pos {α : Type} {c : Prop} [Decidable c] {A B : Nat → Option α} {r : α} (h : c) (k : Ev A r) : Ev (fun n => if c then A n else B n) r := by
  simp only [if_pos h]; exact k

theorem Ev.neg {α : Type} {c : Prop} [Decidable c] {A B : Nat → Option α} {r : α} (h : ¬ c) (k : Ev B r) : Ev (fun n => if c then A n else B n) r := by
  simp only [if_neg h]; exact k

theorem Ev.bind1 {α β : Type} {g : Nat → Option α} {f : Nat → α → Option β} {a : α} {r : β} (h : Ev g a) (k : Ev (fun n => f n a) r) : Ev (fun n => (g n).bind (f n)) r := Ev.bind h k

theorem wrap_in {n : Int} (h1 : -9223372036854775808 ≤ n) (h2 : n ≤ 9223372036854775807) : wrap64 n = n := by unfold wrap64; omega

theorem xor_i64_nat (a b : Nat) (ha : a < 9223372036854775808) (hb : b < 9223372036854775808) : Go.bits .xor .i64 (a : Int) (b : Int) = ((a ^^^ b : Nat) : Int) := by
  have hx : a ^^^ b < 2 ^ 63 := Nat.xor_lt_two_pow (by omega) (by omega)
  have h1 : (BitVec.ofInt 64 (a : Int)).toNat = a := by
    rw [BitVec.ofInt_natCast, BitVec.toNat_ofNat]; exact Nat.mod_eq_of_lt (by omega)
  have h2 : (BitVec.ofInt 64 (b : Int)).toNat = b := by
    rw [BitVec.ofInt_natCast, BitVec.toNat_ofNat]; exact Nat.mod_eq_of_lt (by omega)
  show IntKind.i64.wrap ((BitVec.ofInt 64 (a : Int) ^^^ BitVec.ofInt 64 (b : Int)).toNat : Int) = _
  rw [BitVec.toNat_xor, h1, h2]
  simp [IntKind.wrap, IntKind.bits, IntKind.signed]
  omega

theorem xor_i64_pos {a b : Int} (h1 : 0 ≤ a) (h2 : a < 9223372036854775808) (h3 : 0 ≤ b) (h4 : b < 9223372036854775808) : 0 ≤ Go.bits .xor .i64 a b := by
  obtain ⟨m, rfl⟩ : ∃ m : Nat, a = m := ⟨a.toNat, by omega⟩
  obtain ⟨k, rfl⟩ : ∃ k : Nat, b = k := ⟨b.toNat, by omega⟩
  rw [xor_i64_nat _ _ (by omega) (by omega)]
  omega

/-- a code's bytes -/
def Bytes (s : List Int) : Prop := s.length ≤ 2000 ∧ ∀ x, x ∈ s → 0 ≤ x ∧ x ≤ 255

theorem Bytes.rd {s : List Int} (h : Bytes s) (i : Int) : 0 ≤ rd s i ∧ rd s i ≤ 255 := by
  unfold Go.Proofs.YtcclnblabaoofaaW.PrintWords.rd
  rw [List.getD_eq_getElem?_getD]
  cases e : s[i.toNat]? with
  | none => simp
  | some x => exact h.2 x (List.mem_of_getElem? e)

theorem tmod_in {a n : Int} (ha : 0 ≤ a) (hn : 1 ≤ n) : 0 ≤ Int.tmod a n ∧ Int.tmod a n < n := by
  rw [Int.tmod_eq_emod_of_nonneg ha]
  exact ⟨Int.emod_nonneg _ (by omega), Int.emod_lt_of_pos _ (by omega)⟩

theorem pick_ev {s : List Int} (hs : Bytes s) {p n : Int} (h0 : 0 ≤ p) (h1 : p ≤ 1000000000) (hn : n ≤ 1000000000) :
    ∃ v, Ev (fun k => spec_l6Rd_pick.f k s p n) (v, p + 1) ∧ 0 ≤ v ∧ v ≤ 1000000000 ∧ (1 ≤ n → v < n) := by
  have w1 : wrap64 (p + 1) = p + 1 := wrap_in (by omega) (by omega)
  have w2 : wrap64 (p + 1 - 1) = p := by rw [wrap_in (by omega) (by omega)]; omega
  unfold spec_l6Rd_pick.f
  by_cases c : n < 1
  · refine ⟨0, Ev.pos c ?_, by omega, by omega, fun e => by omega⟩
    rw [w1]
    exact Ev.step (f := fun _ => some (0, p + 1)) (fun k => by rw [spec_l6Rd_pick.j0, if_pos rfl]) (Ev.now _)
  · by_cases d : s.length = 0
    · refine ⟨0, Ev.neg c ?_, by omega, by omega, fun e => by omega⟩
      rw [w1]
      have e : ((s.length : Int) == 0) = true := by simp [d]
      rw [e]
      exact Ev.step (f := fun _ => some (0, p + 1)) (fun k => by rw [spec_l6Rd_pick.j0, if_pos rfl]) (Ev.now _)
    · have e : ((s.length : Int) == 0) = false := by
        exact beq_eq_false_iff_ne.mpr (by omega)
      have hl := hs.1
      by_cases f : p < s.length
      · have r := hs.rd p
        have t := tmod_in (a := rd s p) (n := n) r.1 (by omega)
        refine ⟨Int.tmod (rd s p) n, Ev.neg c ?_, t.1, by omega, fun _ => t.2⟩
        rw [w1, e]
        refine Ev.step (f := fun _ => some (Int.tmod (rd s p) n, p + 1)) (fun k => by
          rw [spec_l6Rd_pick.j0, w2, if_neg (by simp), if_pos f, if_pos h0, if_neg (by omega), wrap_in (by omega) (by omega)]) (Ev.now _)
      · have m1 := tmod_in (a := p) (n := (s.length : Int)) h0 (by omega)
        have w3 : wrap64 (p * 7) = p * 7 := wrap_in (by omega) (by omega)
        have w4 : wrap64 (p * 7 + 3) = p * 7 + 3 := wrap_in (by omega) (by omega)
        have m2 := tmod_in (a := p * 7 + 3) (n := (s.length : Int)) (by omega) (by omega)
        obtain ⟨A, hA⟩ : ∃ A, A = rd s (Int.tmod p (s.length : Int)) := ⟨_, rfl⟩
        obtain ⟨B, hB⟩ : ∃ B, B = rd s (Int.tmod (p * 7 + 3) (s.length : Int)) := ⟨_, rfl⟩
        have a1 : 0 ≤ A ∧ A ≤ 255 := by rw [hA]; exact hs.rd _
        have b1 : 0 ≤ B ∧ B ≤ 255 := by rw [hB]; exact hs.rd _
        obtain ⟨D, hD⟩ : ∃ D, D = Int.tdiv p (s.length : Int) := ⟨_, rfl⟩
        have d1 : 0 ≤ D ∧ D ≤ p := by
          rw [hD, Int.tdiv_eq_ediv_of_nonneg h0]
          exact ⟨Int.ediv_nonneg h0 (by omega), Int.ediv_le_self _ h0⟩
        obtain ⟨X, hX⟩ : ∃ X, X = A * 131 + B * 1117 + p * 29 + D * 53 := ⟨_, rfl⟩
        have x1 : 0 ≤ X ∧ X ≤ 100000000000 := by omega
        have y1 : 0 ≤ Int.tdiv X 64 ∧ Int.tdiv X 64 ≤ X := by
          rw [Int.tdiv_eq_ediv_of_nonneg x1.1]; omega
        have z := xor_i64_pos (a := X) (b := Int.tdiv X 64) x1.1 (by omega) y1.1 (by omega)
        have t := tmod_in (n := n) z (by omega)
        refine ⟨Int.tmod (Go.bits .xor .i64 X (Int.tdiv X 64)) n, Ev.neg c ?_, t.1, by omega, fun _ => t.2⟩
        rw [w1, e]
        refine Ev.step (f := fun _ => some (Int.tmod (Go.bits .xor .i64 X (Int.tdiv X 64)) n, p + 1)) (fun k => by
          rw [spec_l6Rd_pick.j0, w2, if_neg (by simp), if_neg f, if_neg (by omega), if_pos m1.1, if_pos m1.2, w3, w4, if_pos m2.1, if_pos m2.2, if_neg (by omega), ← hA, ← hB, ← hD]
          rw [wrap_in (n := A) (by omega) (by omega), wrap_in (n := B) (by omega) (by omega), wrap_in (n := A * 131) (by omega) (by omega), wrap_in (n := B * 1117) (by omega) (by omega), wrap_in (n := A * 131 + B * 1117) (by omega) (by omega), wrap_in (n := p * 29) (by omega) (by omega), wrap_in (n := A * 131 + B * 1117 + p * 29) (by omega) (by omega), wrap_in (n := D) (by omega) (by omega), wrap_in (n := D * 53) (by omega) (by omega), wrap_in (n := A * 131 + B * 1117 + p * 29 + D * 53) (by omega) (by omega), ← hX, wrap_in (n := Int.tdiv X 64) (by omega) (by omega)]) (Ev.now _)

theorem open_ev {l : List Int} (hw : ∀ x ∈ l, (Lit.int .u8 x).wf = true) : ∃ s, Bytes s ∧ Ev (fun _ => spec_l6Open.f l) (s, 0) := by
  have hb : ∀ x, x ∈ l → 0 ≤ x ∧ x ≤ 255 := by
    intro x hx
    have := hw x hx
    simp [Lit.wf, IntKind.min, IntKind.max, IntKind.signed, IntKind.bits] at this
    omega
  unfold spec_l6Open.f
  by_cases c : (l.length : Int) > 2000
  · refine ⟨l.take 2000, ⟨by simp; omega, fun x hx => hb x (List.mem_of_mem_take hx)⟩, Ev.pos c (Ev.pos (by omega) (Ev.now _))⟩
  · exact ⟨l, ⟨by omega, hb⟩, Ev.neg c (Ev.now _)⟩

/-- the law behind the draw -/
def treesTail (k : Nat) (n : Int) : Option Bool := (impl_RootedTrees.f k n).bind fun a => (spec_RootedTrees.f k n).bind fun b => if a = b then laws_FnTrees.j0 k n a b (decide (a < 0)) else laws_FnTrees.j0 k n a b true

theorem treesTail_eq {v : Int} (h0 : 0 ≤ v) (h1 : v < 15) : Ev (fun k => treesTail k (v - 1)) true := by
  have key : ∀ a : Fin 15, treesTail 60 ((a.val : Int) - 1) = some true := by decide +kernel
  obtain ⟨m, rfl⟩ : ∃ m : Nat, v = m := ⟨v.toNat, by omega⟩
  refine Ev.of (k := 60) (fun k => ?_) (key ⟨m, by omega⟩)
  unfold treesTail
  refine LeO.bind (impl_RootedTrees.mono _ _) fun x => LeO.bind (spec_RootedTrees.mono _ _) fun y => ?_
  split
  · exact (laws_FnTrees.mono_l k).1 _ _ _ _
  · exact (laws_FnTrees.mono_l k).1 _ _ _ _

theorem FnTrees : laws_FnTrees.Pure := by
  intro l _ _ hw
  obtain ⟨s, hs, es⟩ := open_ev hw
  obtain ⟨v, ev, v0, _, v1⟩ := pick_ev hs (p := 0) (n := 15) (by omega) (by omega) (by omega)
  have v2 := v1 (by omega)
  have dr : Ev (fun k => spec_DrawRootedTrees.f k l) (v - 1) := by
    unfold spec_DrawRootedTrees.f
    refine Ev.bind1 es (Ev.bind1 ev ?_)
    show Ev (fun _ => some (wrap64 (v - 1))) _
    rw [wrap_in (by omega) (by omega)]; exact Ev.now _
  have : Ev (fun k => laws_FnTrees.f k l) true := by
    unfold laws_FnTrees.f
    by_cases c : (l.length : Int) > 1048576
    · exact Ev.pos c (Ev.now _)
    · exact Ev.neg c (Ev.bind1 dr (treesTail_eq v0 v2))
  exact this.rounds
end Go.Proofs.Ytcclnblabaoofaa.R
namespace Go.Proofs.Ytcclnblabaoofaa.Pure
theorem FnTrees : Go.Proofs.Ytcclnblabaoofaa.F.laws_FnTrees.Pure := Go.Proofs.Ytcclnblabaoofaa.R.FnTrees
end Go.Proofs.Ytcclnblabaoofaa.Pure
