/- All rooted plane maps: the root faces add up, and the ratio of one number to the next. -/
import Derived.Test.YtcclnblabaoofaaF1
import Derived.Test.YtcclnblabaoofaaF10
import Derived.Test.YtcclnblabaoofaaF11
import Derived.Test.YtcclnblabaoofaaF15
import Derived.Test.YtcclnblabaoofaaF16
import Derived.Test.YtcclnblabaoofaaF8
set_option linter.unusedVariables false
set_option linter.unusedSimpArgs false
namespace Go.Proofs.Ytcclnblabaoofaa.Sm
open List
end Go.Proofs.Ytcclnblabaoofaa.Sm
namespace Go.Proofs.Ytcclnblabaoofaa.R
open Go.RowKit Go.Proofs.YtcclnblabaoofaaW.PrintWords Go.Proofs.YtcclnblabaoofaaW.PrintLast Go.Proofs.YtcclnblabaoofaaW.PrintMore Go.Proofs.Ytcclnblabaoofaa.F Go.Proofs.Ytcclnblabaoofaa.Sm
theorem Ev.pos {α : Type} {c : Prop} [Decidable c] {A B : Nat → Option α} {r : α} (h : c) (k : Ev A r) : Ev (fun n => if c then A n else B n) r := by
 simp only [if_pos h]; exact k

theorem Ev.neg {α : Type} {c : Prop} [Decidable c] {A B : Nat → Option α} {r : α} (h : ¬ c) (k : Ev B r) : Ev (fun n => if c then A n else B n) r := by
 simp only [if_neg h]; exact k

theorem Ev.bind1 {α β : Type} {g : Nat → Option α} {f : Nat → α → Option β} {a : α} {r : β} (h : Ev g a) (k : Ev (fun n => f n a) r) : Ev (fun n => (g n).bind (f n)) r := Ev.bind h k

theorem Ev.some1 {α β : Type} {f : Nat → α → Option β} {a : α} {r : β} (k : Ev (fun n => f n a) r) : Ev (fun n => (some a).bind (f n)) r := k

theorem wrap_nat {i : Nat} (h : i < 9223372036854775807) : wrap64 ((i : Int) + 1) = ((i + 1 : Nat) : Int) := by unfold wrap64; omega

theorem wrap_in {n : Int} (h1 : -9223372036854775808 ≤ n) (h2 : n ≤ 9223372036854775807) : wrap64 n = n := by unfold wrap64; omega

theorem xor_i64_nat (a b : Nat) (ha : a < 9223372036854775808) (hb : b < 9223372036854775808) : Go.bits .xor .i64 (a : Int) (b : Int) = ((a ^^^ b : Nat) : Int) := by
 have hx : a ^^^ b < 2 ^ 63 := Nat.xor_lt_two_pow (by omega) (by omega)
 have h1 : (BitVec.ofInt 64 (a : Int)).toNat = a := by
  rw [BitVec.ofInt_natCast, BitVec.toNat_ofNat]; exact Nat.mod_eq_of_lt (by omega)
 have h2 : (BitVec.ofInt 64 (b : Int)).toNat = b := by
  rw [BitVec.ofInt_natCast, BitVec.toNat_ofNat]; exact Nat.mod_eq_of_lt (by omega)
 show IntKind.i64.wrap ((BitVec.ofInt 64 (a : Int) ^^^ BitVec.ofInt 64 (b : Int)).toNat : Int) = _
 rw [BitVec.toNat_xor, h1, h2]
 simp [IntKind.wrap, IntKind.bits, IntKind.signed]
 omega

theorem xor_i64_pos {a b : Int} (h1 : 0 ≤ a) (h2 : a < 9223372036854775808) (h3 : 0 ≤ b) (h4 : b < 9223372036854775808) : 0 ≤ Go.bits .xor .i64 a b := by
 obtain ⟨m, rfl⟩ : ∃ m : Nat, a = m := ⟨a.toNat, by omega⟩
 obtain ⟨k, rfl⟩ : ∃ k : Nat, b = k := ⟨b.toNat, by omega⟩
 rw [xor_i64_nat _ _ (by omega) (by omega)]
 omega

/-- a code's bytes -/
def Bytes (s : List Int) : Prop := s.length ≤ 2000 ∧ ∀ x, x ∈ s → 0 ≤ x ∧ x ≤ 255

theorem Bytes.rd {s : List Int} (h : Bytes s) (i : Int) : 0 ≤ rd s i ∧ rd s i ≤ 255 := by
 unfold Go.Proofs.YtcclnblabaoofaaW.PrintWords.rd
 rw [List.getD_eq_getElem?_getD]
 cases e : s[i.toNat]? with
 | none => simp
 | some x => exact h.2 x (List.mem_of_getElem? e)

theorem tmod_in {a n : Int} (ha : 0 ≤ a) (hn : 1 ≤ n) : 0 ≤ Int.tmod a n ∧ Int.tmod a n < n := by
 rw [Int.tmod_eq_emod_of_nonneg ha]
 exact ⟨Int.emod_nonneg _ (by omega), Int.emod_lt_of_pos _ (by omega)⟩

theorem pick_ev {s : List Int} (hs : Bytes s) {p n : Int} (h0 : 0 ≤ p) (h1 : p ≤ 1000000000) (hn : n ≤ 1000000000) :
 ∃ v, Ev (fun k => spec_l6Rd_pick.f k s p n) (v, p + 1) ∧ 0 ≤ v ∧ v ≤ 1000000000 ∧ (1 ≤ n → v < n) := by
 have w1 : wrap64 (p + 1) = p + 1 := wrap_in (by omega) (by omega)
 have w2 : wrap64 (p + 1 - 1) = p := by rw [wrap_in (by omega) (by omega)]; omega
 unfold spec_l6Rd_pick.f
 by_cases c : n < 1
 ·refine ⟨0, Ev.pos c ?_, by omega, by omega, fun e => by omega⟩
  rw [w1]
  exact Ev.step (f := fun _ => some (0, p + 1)) (fun k => by rw [spec_l6Rd_pick.j0, if_pos rfl]) (Ev.now _)
 ·by_cases d : s.length = 0
  ·refine ⟨0, Ev.neg c ?_, by omega, by omega, fun e => by omega⟩
   rw [w1]
   have e : ((s.length : Int) == 0) = true := by simp [d]
   rw [e]
   exact Ev.step (f := fun _ => some (0, p + 1)) (fun k => by rw [spec_l6Rd_pick.j0, if_pos rfl]) (Ev.now _)
  ·have e : ((s.length : Int) == 0) = false := by
    exact beq_eq_false_iff_ne.mpr (by omega)
   have hl := hs.1
   by_cases f : p < s.length
   ·have r := hs.rd p
    have t := tmod_in (a := rd s p) (n := n) r.1 (by omega)
    refine ⟨Int.tmod (rd s p) n, Ev.neg c ?_, t.1, by omega, fun _ => t.2⟩
    rw [w1, e]
    refine Ev.step (f := fun _ => some (Int.tmod (rd s p) n, p + 1)) (fun k => by
     rw [spec_l6Rd_pick.j0, w2, if_neg (by simp), if_pos f, if_pos h0, if_neg (by omega), wrap_in (by omega) (by omega)]) (Ev.now _)
   ·have m1 := tmod_in (a := p) (n := (s.length : Int)) h0 (by omega)
    have w3 : wrap64 (p * 7) = p * 7 := wrap_in (by omega) (by omega)
    have w4 : wrap64 (p * 7 + 3) = p * 7 + 3 := wrap_in (by omega) (by omega)
    have m2 := tmod_in (a := p * 7 + 3) (n := (s.length : Int)) (by omega) (by omega)
    obtain ⟨A, hA⟩ : ∃ A, A = rd s (Int.tmod p (s.length : Int)) := ⟨_, rfl⟩
    obtain ⟨B, hB⟩ : ∃ B, B = rd s (Int.tmod (p * 7 + 3) (s.length : Int)) := ⟨_, rfl⟩
    have a1 : 0 ≤ A ∧ A ≤ 255 := by rw [hA]; exact hs.rd _
    have b1 : 0 ≤ B ∧ B ≤ 255 := by rw [hB]; exact hs.rd _
    obtain ⟨D, hD⟩ : ∃ D, D = Int.tdiv p (s.length : Int) := ⟨_, rfl⟩
    have d1 : 0 ≤ D ∧ D ≤ p := by
     rw [hD, Int.tdiv_eq_ediv_of_nonneg h0]
     exact ⟨Int.ediv_nonneg h0 (by omega), Int.ediv_le_self _ h0⟩
    obtain ⟨X, hX⟩ : ∃ X, X = A * 131 + B * 1117 + p * 29 + D * 53 := ⟨_, rfl⟩
    have x1 : 0 ≤ X ∧ X ≤ 100000000000 := by omega
    have y1 : 0 ≤ Int.tdiv X 64 ∧ Int.tdiv X 64 ≤ X := by
     rw [Int.tdiv_eq_ediv_of_nonneg x1.1]; omega
    have z := xor_i64_pos (a := X) (b := Int.tdiv X 64) x1.1 (by omega) y1.1 (by omega)
    have t := tmod_in (n := n) z (by omega)
    refine ⟨Int.tmod (Go.bits .xor .i64 X (Int.tdiv X 64)) n, Ev.neg c ?_, t.1, by omega, fun _ => t.2⟩
    rw [w1, e]
    refine Ev.step (f := fun _ => some (Int.tmod (Go.bits .xor .i64 X (Int.tdiv X 64)) n, p + 1)) (fun k => by
     rw [spec_l6Rd_pick.j0, w2, if_neg (by simp), if_neg f, if_neg (by omega), if_pos m1.1, if_pos m1.2, w3, w4, if_pos m2.1, if_pos m2.2, if_neg (by omega), ← hA, ← hB, ← hD]
     rw [wrap_in (n := A) (by omega) (by omega), wrap_in (n := B) (by omega) (by omega), wrap_in (n := A * 131) (by omega) (by omega), wrap_in (n := B * 1117) (by omega) (by omega), wrap_in (n := A * 131 + B * 1117) (by omega) (by omega), wrap_in (n := p * 29) (by omega) (by omega), wrap_in (n := A * 131 + B * 1117 + p * 29) (by omega) (by omega), wrap_in (n := D) (by omega) (by omega), wrap_in (n := D * 53) (by omega) (by omega), wrap_in (n := A * 131 + B * 1117 + p * 29 + D * 53) (by omega) (by omega), ← hX, wrap_in (n := Int.tdiv X 64) (by omega) (by omega)]) (Ev.now _)

theorem open_ev {l : List Int} (hw : ∀ x ∈ l, (Lit.int .u8 x).wf = true) : ∃ s, Bytes s ∧ Ev (fun _ => spec_l6Open.f l) (s, 0) := by
 have hb : ∀ x, x ∈ l → 0 ≤ x ∧ x ≤ 255 := by
  intro x hx
  have := hw x hx
  simp [Lit.wf, IntKind.min, IntKind.max, IntKind.signed, IntKind.bits] at this
  omega
 unfold spec_l6Open.f
 by_cases c : (l.length : Int) > 2000
 ·refine ⟨l.take 2000, ⟨by simp; omega, fun x hx => hb x (List.mem_of_mem_take hx)⟩, Ev.pos c (Ev.pos (by omega) (Ev.now _))⟩
 ·exact ⟨l, ⟨by omega, hb⟩, Ev.neg c (Ev.now _)⟩

theorem ev_at {α : Type} {f : Nat → Option α} {r : α} (hm : ∀ k, LeO (f k) (f (k + 1))) {k : Nat} (h : f k = some r) : Ev f r := Ev.of (k := k) hm h

theorem rd_setn {s : List Int} {a b : Nat} {v : Int} (h : a < s.length) : rd (s.set a v) (b : Int) = if a = b then v else rd s (b : Int) := by
 unfold rd
 rw [Int.toNat_natCast, List.getD_eq_getElem?_getD, List.getD_eq_getElem?_getD, List.getElem?_set]
 by_cases c : a = b
 ·subst c; simp [h]
 ·simp [c]

def fcell (n d : Nat) : Nat := n * 19 + d

def facc3 (xs : List Int) (n d i : Nat) : Nat → Nat → Int → Int
 | 0, _, v => v
 | m + 1, a, v => facc3 xs n d i m (a + 1) (wrap64 (v + wrap64 (rd xs ((i * 19 + a : Nat) : Int) * rd xs (((n - 1 - i) * 19 + (d - 2 - a) : Nat) : Int))))

def facc4 (xs : List Int) (n : Nat) : Nat → Nat → Int → Int
 | 0, _, v => v
 | m + 1, q, v => facc4 xs n m (q + 1) (wrap64 (v + rd xs (((n - 1) * 19 + q : Nat) : Int)))

def facc2 (xs : List Int) (n d : Nat) : Nat → Nat → Int → Int
 | 0, _, v => v
 | m + 1, i, v => facc2 xs n d m (i + 1) (facc3 xs n d i (d - 1) 0 v)

theorem face3 {xs : List Int} (hx : xs.length = 190) {n d i : Nat} (h1 : 1 ≤ n) (h2 : n ≤ 9) (h3 : 1 ≤ d) (h4 : d ≤ 18) (h5 : i < n) (e : Int) (k : Nat) : ∀ m a v, a + m = d - 1 →
 impl_RootedFace.l3 (k + (m + 1)) e (xs.set (fcell n d) v) n d i a = impl_RootedFace.l2 k e (xs.set (fcell n d) (facc3 xs n d i m a v)) n d ((i + 1 : Nat) : Int) := by
 have w0 : wrap64 ((d : Int) - 2) = (d : Int) - 2 := wrap_in (by omega) (by omega)
 have wi : wrap64 ((i : Int) + 1) = ((i + 1 : Nat) : Int) := wrap_nat (by omega)
 intro m
 induction m with
 | zero =>
  intro a v ha
  rw [show k + (0 + 1) = k + 1 from rfl, impl_RootedFace.l3, w0, if_neg (by omega), wi]
  rfl
 | succ m ih =>
  intro a v ha
  rw [show k + (m + 1 + 1) = (k + (m + 1)) + 1 from rfl, impl_RootedFace.l3, w0, if_pos (by omega)]
  have c0 : fcell n d < xs.length := by unfold fcell; omega
  have e1 : (n : Int) * 19 + (d : Int) = ((fcell n d : Nat) : Int) := by unfold fcell; omega
  have e2 : (i : Int) * 19 + (a : Int) = ((i * 19 + a : Nat) : Int) := by omega
  have e3 : wrap64 (wrap64 ((n : Int) - 1) - (i : Int)) * 19 + wrap64 ((d : Int) - 2 - (a : Int)) = (((n - 1 - i) * 19 + (d - 2 - a) : Nat) : Int) := by
   rw [wrap_in (n := (n : Int) - 1) (by omega) (by omega), wrap_in (n := (n : Int) - 1 - i) (by omega) (by omega), wrap_in (n := (d : Int) - 2 - a) (by omega) (by omega)]
   omega
  have e4 : (n : Int).toNat * 19 + (d : Int).toNat = fcell n d := rfl
  rw [e1, e2, e3, e4, rd_setn c0, rd_setn c0, rd_setn c0, if_pos rfl, if_neg (by unfold fcell; omega), if_neg (by unfold fcell; omega), List.set_set, wrap_nat (by omega)]
  exact ih (a + 1) _ (by omega)

theorem face4 {xs : List Int} (hx : xs.length = 190) {n d : Nat} (h1 : 1 ≤ n) (h2 : n ≤ 9) (h3 : 1 ≤ d) (h4 : d ≤ 18) (e : Int) (k : Nat) : ∀ (m q : Nat) (v : Int), q + m = 19 →
 impl_RootedFace.l4 (k + (m + 1)) e (xs.set (fcell n d) v) n d q = impl_RootedFace.l1 k e (xs.set (fcell n d) (facc4 xs n m q v)) n ((d + 1 : Nat) : Int) := by
 intro m
 induction m with
 | zero =>
  intro q v hq
  rw [show k + (0 + 1) = k + 1 from rfl, impl_RootedFace.l4, if_neg (by omega), wrap_nat (by omega)]
  rfl
 | succ m ih =>
  intro q v hq
  rw [show k + (m + 1 + 1) = (k + (m + 1)) + 1 from rfl, impl_RootedFace.l4, if_pos (by omega)]
  have c0 : fcell n d < xs.length := by unfold fcell; omega
  have e1 : (n : Int) * 19 + (d : Int) = ((fcell n d : Nat) : Int) := by unfold fcell; omega
  have e2 : wrap64 ((n : Int) - 1) * 19 + (q : Int) = (((n - 1) * 19 + q : Nat) : Int) := by
   rw [wrap_in (by omega) (by omega)]; omega
  have e4 : (n : Int).toNat * 19 + (d : Int).toNat = fcell n d := rfl
  rw [e1, e2, e4, rd_setn c0, rd_setn c0, if_pos rfl, if_neg (by unfold fcell; omega), List.set_set, wrap_nat (by omega)]
  exact ih (q + 1) _ (by omega)

def ff2 (d : Nat) : Nat → Nat
 | 0 => 1
 | m + 1 => ff2 d m + d + 1

theorem face2 {xs : List Int} (hx : xs.length = 190) {n d : Nat} (h1 : 1 ≤ n) (h2 : n ≤ 9) (h3 : 1 ≤ d) (h4 : d ≤ 18) (e : Int) (k : Nat) : ∀ m i v, i + m = n →
 impl_RootedFace.l2 (k + ff2 d m) e (xs.set (fcell n d) v) n d i = impl_RootedFace.l4 k e (xs.set (fcell n d) (facc2 xs n d m i v)) n d ((d - 1 : Nat) : Int) := by
 intro m
 induction m with
 | zero =>
  intro i v hi
  rw [show k + ff2 d 0 = k + 1 from rfl, impl_RootedFace.l2, if_neg (by omega), wrap_in (by omega) (by omega), show (d : Int) - 1 = ((d - 1 : Nat) : Int) by omega]
  rfl
 | succ m ih =>
  intro i v hi
  rw [show k + ff2 d (m + 1) = (k + ff2 d m + d) + 1 from by show k + (ff2 d m + d + 1) = _; omega, impl_RootedFace.l2, if_pos (by omega)]
  have f3 := face3 hx h1 h2 h3 h4 (i := i) (by omega) e (k + ff2 d m) (d - 1) 0 v (by omega)
  rw [show k + ff2 d m + (d - 1 + 1) = k + ff2 d m + d by omega] at f3
  rw [show (0 : Int) = ((0 : Nat) : Int) from rfl, f3]
  exact ih (i + 1) _ (by omega)

def fval (xs : List Int) (n d : Nat) : Int := facc4 xs n (20 - d) (d - 1) (facc2 xs n d n 0 (rd xs ((fcell n d : Nat) : Int)))

theorem set_self {xs : List Int} {c : Nat} (h : c < xs.length) : xs.set c (rd xs (c : Int)) = xs := by
 apply List.ext_getElem?
 intro j
 rw [List.getElem?_set]
 by_cases e : c = j
 ·subst e; rw [if_pos rfl, if_pos h]; unfold rd; simp [List.getD_eq_getElem?_getD, h]
 ·rw [if_neg e]

def ff1 (n : Nat) : Nat → Nat   -- rounds for the cells of a row from the m-th on from its end
 | 0 => 1
 | m + 1 => ff1 n m + (ff2 (18 - m) n + (m + 3) + 1)

def frow (n : Nat) : Nat → List Int → List Int
 | 0, xs => xs
 | m + 1, xs => frow n m (xs.set (fcell n (18 - m)) (fval xs n (18 - m)))

theorem frow_len (n : Nat) : ∀ m xs, xs.length = 190 → (frow n m xs).length = 190
 | 0, _, h => h
 | m + 1, xs, h => frow_len n m _ (by rw [List.length_set]; exact h)

theorem face1 {n : Nat} (h1 : 1 ≤ n) (h2 : n ≤ 9) (e : Int) (k : Nat) : ∀ m, m ≤ 18 → ∀ xs : List Int, xs.length = 190 →
 impl_RootedFace.l1 (k + ff1 n m) e xs n ((19 - m : Nat) : Int) = impl_RootedFace.l0 k e (frow n m xs) ((n + 1 : Nat) : Int) := by
 intro m
 induction m with
 | zero =>
  intro _ xs hx
  rw [show k + ff1 n 0 = k + 1 from rfl, impl_RootedFace.l1, if_neg (by omega), wrap_nat (by omega)]
  rfl
 | succ m ih =>
  intro hm xs hx
  have hd1 : 1 ≤ 18 - m := by omega
  have hd2 : 18 - m ≤ 18 := by omega
  rw [show k + ff1 n (m + 1) = (k + ff1 n m + (m + 3) + ff2 (18 - m) n) + 1 from by show k + (ff1 n m + (ff2 (18 - m) n + (m + 3) + 1)) = _; omega, impl_RootedFace.l1, if_pos (by omega)]
  have c0 : fcell n (18 - m) < xs.length := by unfold fcell; omega
  have f2 := face2 hx h1 h2 hd1 hd2 e (k + ff1 n m + (m + 3)) n 0 (rd xs ((fcell n (18 - m) : Nat) : Int)) (by omega)
  rw [set_self c0] at f2
  have f4 := face4 hx h1 h2 hd1 hd2 e (k + ff1 n m) (20 - (18 - m)) (18 - m - 1) (facc2 xs n (18 - m) n 0 (rd xs ((fcell n (18 - m) : Nat) : Int))) (by omega)
  rw [show k + ff1 n m + (20 - (18 - m) + 1) = k + ff1 n m + (m + 3) by omega] at f4
  rw [show ((19 - (m + 1) : Nat) : Int) = ((18 - m : Nat) : Int) by omega, show (0 : Int) = ((0 : Nat) : Int) from rfl, f2, f4, show ((18 - m + 1 : Nat) : Int) = ((19 - m : Nat) : Int) by omega]
  exact ih (by omega) _ (by rw [List.length_set]; exact hx)

def ff0 : Nat → Nat → Nat   -- n, then the rows still to come
 | _, 0 => 1
 | n, m + 1 => ff0 (n + 1) m + ff1 n 18 + 1

def frows : Nat → Nat → List Int → List Int
 | _, 0, xs => xs
 | n, m + 1, xs => frows (n + 1) m (frow n 18 xs)

theorem face0 (e : Nat) (he : e ≤ 9) (k : Nat) : ∀ m n xs, n + m = e + 1 → 1 ≤ n → xs.length = 190 → impl_RootedFace.l0 (k + ff0 n m) (e : Int) xs (n : Int) = some (frows n m xs) := by
 intro m
 induction m with
 | zero =>
  intro n xs hn _ _
  rw [show k + ff0 n 0 = k + 1 from rfl, impl_RootedFace.l0, if_neg (by omega)]
  rfl
 | succ m ih =>
  intro n xs hn h1 hx
  rw [show k + ff0 n (m + 1) = (k + ff0 (n + 1) m + ff1 n 18) + 1 from by show k + (ff0 (n + 1) m + ff1 n 18 + 1) = _; omega, impl_RootedFace.l0, if_pos (by omega)]
  have f1 := face1 h1 (by omega) (e : Int) (k + ff0 (n + 1) m) 18 (by omega) xs hx
  rw [show (1 : Int) = ((19 - 18 : Nat) : Int) from rfl, f1]
  exact ih (n + 1) _ (by omega) (by omega) (frow_len n 18 xs hx)

def ftab (e : Nat) : List Int := frows 1 e ((List.replicate 190 (0 : Int)).set 0 1)

theorem ff_small : ∀ e : Fin 10, ff0 1 e.val ≤ 20000 := by decide +kernel

theorem tab_eq {e : Nat} (he : e ≤ 9) : impl_RootedFace.tab (e : Int) = some (ftab e) := by
 have s := ff_small ⟨e, by omega⟩
 have s' : ff0 1 e ≤ 20000 := s
 have f := face0 e he (20000 - ff0 1 e) e 1 ((List.replicate 190 (0 : Int)).set 0 1) (by omega) (by omega) (by rw [List.length_set, List.length_replicate])
 rw [show 20000 - ff0 1 e + ff0 1 e = 20000 by omega] at f
 unfold impl_RootedFace.tab
 exact f

/-- the rows, written out -/
def frowLit : Nat → List Int
 | 0 => [1,0,0,0,0,0,0,0,0,0,0,0,0,0,0,0,0,0,0]
 | 1 => [0,1,1,0,0,0,0,0,0,0,0,0,0,0,0,0,0,0,0]
 | 2 => [0,2,2,3,2,0,0,0,0,0,0,0,0,0,0,0,0,0,0]
 | 3 => [0,9,9,11,10,10,5,0,0,0,0,0,0,0,0,0,0,0,0]
 | 4 => [0,54,54,63,58,55,45,35,14,0,0,0,0,0,0,0,0,0,0]
 | 5 => [0,378,378,432,400,377,321,266,196,126,42,0,0,0,0,0,0,0,0]
 | 6 => [0,2916,2916,3294,3060,2880,2496,2121,1680,1260,840,462,132,0,0,0,0,0,0]
 | 7 => [0,24057,24057,26973,25110,23625,20682,17817,14568,11502,8520,5874,3564,1716,429,0,0,0,0]
 | 8 => [0,208494,208494,232551,216810,203985,179739,156184,130026,105435,81795,60753,42273,27027,15015,6435,1430,0,0]
 | 9 => [0,1876446,1876446,2084940,1945944,1831005,1620729,1416744,1193292,983663,783415,604648,446908,314314,206206,122980,62920,24310,4862]
 | _ => []

def flit : Nat → List Int
 | 0 => frowLit 0 ++ List.replicate 171 0
 | n + 1 => (flit n).take (n * 19 + 19) ++ frowLit (n + 1) ++ List.replicate (152 - n * 19) 0

theorem flit0 : (List.replicate 190 (0 : Int)).set 0 1 = flit 0 := by decide +kernel

theorem flit_step : ∀ n : Fin 9, frow (n.val + 1) 18 (flit n.val) = flit (n.val + 1) := by decide +kernel

theorem flit_rows : ∀ m n, n + m ≤ 9 → frows (n + 1) m (flit n) = flit (n + m)
 | 0, _, _ => rfl
 | m + 1, n, h => by
  rw [frows, flit_step ⟨n, by omega⟩, flit_rows m (n + 1) (by omega), show n + 1 + m = n + (m + 1) by omega]

theorem ftab_lit {e : Nat} (he : e ≤ 9) : ftab e = flit e := by
 have h := flit_rows e 0 (by omega)
 unfold ftab
 rw [flit0, h, Nat.zero_add]

theorem face_f {e p : Int} (h0 : 0 ≤ e) (h1 : e ≤ 9) (h2 : 0 ≤ p) (h3 : p ≤ 18) : impl_RootedFace.f e p = some (rd (flit e.toNat) (e * 19 + p)) := by
 obtain ⟨m, rfl⟩ : ∃ m : Nat, e = m := ⟨e.toNat, by omega⟩
 unfold impl_RootedFace.f
 rw [if_neg (by omega), if_neg (by omega), if_neg (by omega), if_neg (by omega), tab_eq (by omega), ftab_lit (by omega), Int.toNat_natCast, Option.bind_some]

def fsum (e : Nat) : Nat → Nat → Int → Int
 | 0, _, v => v
 | m + 1, p, v => fsum e m (p + 1) (wrap64 (v + rd (flit e) ((e : Int) * 19 + (p : Int))))

def planeOk (e : Nat) : Bool := match impl_RootedPlane.f 60 (e : Int), spec_RootedPlane.f 200 (e : Int), impl_RootedPlane.f 60 (wrap64 ((e : Int) + 1)) with
 | some a, some b, some c => a == b && decide (0 ≤ a) && (fsum e 19 0 0 == a) && (if (e : Int) = 9 then c == -1 else wrap64 (c * wrap64 ((e : Int) + 3)) == wrap64 (wrap64 (6 * wrap64 (wrap64 (2 * (e : Int)) + 1)) * a))
 | _, _, _ => false

theorem plane_ok : ∀ e : Fin 10, planeOk e.val = true := by decide +kernel

theorem plane_okn (m : Nat) (h : m < 10) : planeOk m = true := plane_ok ⟨m, h⟩

theorem plane_in {e : Int} (h0 : 0 ≤ e) (h1 : e ≤ 9) : ∃ a c, Ev (fun k => impl_RootedPlane.f k e) a ∧ Ev (fun k => spec_RootedPlane.f k e) a ∧ Ev (fun k => impl_RootedPlane.f k (wrap64 (e + 1))) c ∧ 0 ≤ a ∧ fsum e.toNat 19 0 0 = a ∧ (if e = 9 then c == -1 else wrap64 (c * wrap64 (e + 3)) == wrap64 (wrap64 (6 * wrap64 (wrap64 (2 * e) + 1)) * a)) = true := by
 obtain ⟨m, rfl⟩ : ∃ m : Nat, e = m := ⟨e.toNat, by omega⟩
 have h := plane_okn m (by omega)
 unfold planeOk at h
 cases e1 : impl_RootedPlane.f 60 (m : Int) with
 | none => rw [e1] at h; simp at h
 | some a =>
  cases e2 : spec_RootedPlane.f 200 (m : Int) with
  | none => rw [e1, e2] at h; simp at h
  | some b =>
   cases e3 : impl_RootedPlane.f 60 (wrap64 ((m : Int) + 1)) with
   | none => rw [e1, e2, e3] at h; simp at h
   | some c =>
    rw [e1, e2, e3] at h
    simp only [Bool.and_eq_true] at h
    obtain ⟨⟨⟨k1, k2⟩, k3⟩, k4⟩ := h
    have k1' : a = b := by simpa using k1
    subst k1'
    exact ⟨a, c, ev_at (impl_RootedPlane.mono _) e1, ev_at (spec_RootedPlane.mono _) e2, ev_at (impl_RootedPlane.mono _) e3, of_decide_eq_true k2, by rw [Int.toNat_natCast]; simpa using k3, k4⟩

theorem plane_out {e : Int} (h : ¬ (0 ≤ e ∧ e ≤ 9)) : Ev (fun k => impl_RootedPlane.f k e) (-1) ∧ Ev (fun k => spec_RootedPlane.f k e) (-1) := by
 have j : Ev (fun k => impl_RootedPlane.j0 k e true) (-1) := Ev.step (fun k => by rw [impl_RootedPlane.j0]) (Ev.pos rfl (Ev.now _))
 constructor
 ·unfold impl_RootedPlane.f
  by_cases a : e < 0
  ·exact Ev.pos a j
  ·rw [decide_eq_true (show e > 9 by omega)]; exact Ev.neg a j
 ·unfold spec_RootedPlane.f spec_l6In.f
  by_cases a : e ≥ 0
  ·rw [if_pos a, decide_eq_false (by omega)]; exact Ev.some1 (Ev.neg (by simp) (Ev.now _))
  ·rw [if_neg a]; exact Ev.some1 (Ev.neg (by simp) (Ev.now _))

theorem planeLoop_ev {e : Int} (h0 : 0 ≤ e) (h1 : e ≤ 9) {a w : Int} {r : Bool} (hz : Ev (fun k => laws_FnPlane.l0 k e a w ((19 : Nat) : Int)) r) : ∀ (m p : Nat) (v : Int), p + m = 19 → fsum e.toNat m p v = w → Ev (fun k => laws_FnPlane.l0 k e a v (p : Int)) r := by
 intro m
 induction m with
 | zero =>
  intro p v hp hs
  have p19 : p = 19 := by omega
  subst p19
  rw [fsum] at hs
  rw [hs]
  exact hz
 | succ m ih =>
  intro p v hp hs
  refine Ev.step (fun k => by rw [laws_FnPlane.l0]) ?_
  refine Ev.pos (by omega) ?_
  rw [face_f h0 h1 (by omega) (by omega)]
  refine Ev.some1 ?_
  rw [wrap_nat (by omega)]
  refine ih (p + 1) _ (by omega) ?_
  rw [← hs, fsum, Int.toNat_of_nonneg h0]

theorem drawPlane_ev {l : List Int} (hw : ∀ x ∈ l, (Lit.int .u8 x).wf = true) : ∃ e, Ev (fun k => spec_DrawRootedPlane.f k l) e := by
 obtain ⟨s, hs, es⟩ := open_ev hw
 obtain ⟨v, ev, v0, v1, v2⟩ := pick_ev hs (p := 0) (n := 12) (by omega) (by omega) (by omega)
 unfold spec_DrawRootedPlane.f
 exact ⟨_, Ev.bind1 es (Ev.bind1 ev (Ev.now _))⟩

/-- All rooted plane maps: the root faces add up, and the ratio of one number to the next. -/
theorem FnPlane : laws_FnPlane.Pure := by
 intro l _ _ hw
 obtain ⟨e, dr⟩ := drawPlane_ev hw
 have : Ev (fun k => laws_FnPlane.f k l) true := by
  unfold laws_FnPlane.f
  by_cases c : (l.length : Int) > 1048576
  ·exact Ev.pos c (Ev.now _)
  refine Ev.neg c (Ev.bind1 dr ?_)
  by_cases h : 0 ≤ e ∧ e ≤ 9
  ·obtain ⟨a, c, e1, e2, e3, a0, a1, a2⟩ := plane_in h.1 h.2
   refine Ev.bind1 e1 (Ev.bind1 e2 (Ev.pos rfl ?_))
   rw [decide_eq_false (show ¬ a < 0 by omega)]
   refine Ev.step (fun k => by rw [laws_FnPlane.j0]) ?_
   refine Ev.neg (by simp) ?_
   refine planeLoop_ev (w := a) h.1 h.2 ?_ 19 0 0 (by omega) a1
   refine Ev.step (fun k => by rw [laws_FnPlane.l0]) ?_
   refine Ev.neg (by omega) (Ev.bind1 e3 (Ev.pos rfl ?_))
   by_cases e9 : e = 9
   ·rw [if_pos e9] at a2
    exact Ev.pos e9 (Ev.pos (by simpa using a2) (Ev.now _))
   ·rw [if_neg e9] at a2
    rw [a2]
    exact Ev.neg e9 (Ev.now _)
  ·obtain ⟨e1, e2⟩ := plane_out h
   refine Ev.bind1 e1 (Ev.bind1 e2 (Ev.pos rfl ?_))
   rw [decide_eq_true (show (-1 : Int) < 0 by omega)]
   refine Ev.step (fun k => by rw [laws_FnPlane.j0]) ?_
   exact Ev.pos rfl (Ev.now _)
 exact this.rounds
end Go.Proofs.Ytcclnblabaoofaa.R
namespace Go.Proofs.Ytcclnblabaoofaa.Pure
theorem FnPlane : Go.Proofs.Ytcclnblabaoofaa.F.laws_FnPlane.Pure := Go.Proofs.Ytcclnblabaoofaa.R.FnPlane
end Go.Proofs.Ytcclnblabaoofaa.Pure
